/- The links of a block. Plain facts. -/
import Derived.Test.YtphnknndgfgepaaGreatDoorWB
import Derived.Test.YtphnknndgfgepaaGreatDoorF74d
section
namespace Go.Proofs.Xd
open Go Go.Proofs Go.Proofs.Xl
abbrev DLink:=Int×Int×Int×Int
def transV(k s:Int):List (Int×Int):=if(k==2)=true then [(0,0),(0,1)] else if(k==3)=true then [(1,0),(1,1)] else if(k != 1)=true then [] else if(s==1)=true then [(0,0),(1,1)] else if(s==2)=true then [(0,1),(1,0)] else [(0,0),(0,1),(1,0),(1,1)]
theorem transV_ok(k s:Int):(transV k s).length<=4/\∀t∈transV k s,0<=t.1/\t.1<=1/\0<=t.2/\t.2<=1:=by
 unfold transV;split
 ·exact⟨by decide,by decide⟩
 split
 ·exact⟨by decide,by decide⟩
 split
 ·exact⟨by decide,by decide⟩
 split
 ·exact⟨by decide,by decide⟩
 split
 ·exact⟨by decide,by decide⟩
 ·exact⟨by decide,by decide⟩
def clinkF(f a b x:Int)(tr:List (Int×Int))(k:Nat)(s:List DLink):List DLink:=s++[(2*(f+a)+(tr.getD k (0,0)).1,2*(f+b)+(tr.getD k (0,0)).2,1,x)]
theorem clinkF_len(f a b x:Int)(tr:List (Int×Int))(s:List DLink):∀k,(fN (clinkF f a b x tr) k s).length=s.length+k
 | 0=>rfl
 | k+1=>by
   have:=clinkF_len f a b x tr s k;show(clinkF f a b x tr k (fN (clinkF f a b x tr) k s)).length=_;generalize fN (clinkF f a b x tr) k s=z at this;unfold clinkF;rw[List.length_append,this]; rfl
def carcF(f:Int)(arcs:Nat->DArc)(j:Nat)(s:List DLink):List DLink:=fN (clinkF f (arcs j).2.1 (arcs j).2.2.1 (j:Int) (transV (arcs j).1 (arcs j).2.2.2.1)) (transV (arcs j).1 (arcs j).2.2.2.1).length s
theorem carcF_len(f:Int)(arcs:Nat->DArc)(j:Nat)(s:List DLink):(carcF f arcs j s).length<=s.length+4:=by
 unfold carcF;rw[clinkF_len];have:=(transV_ok (arcs j).1 (arcs j).2.2.2.1).1;omega
def cellLinksD(f:Int)(arcs:Nat->DArc)(m:Nat):List DLink:=fN (carcF f arcs) m []
theorem cellLinksD_len(f:Int)(arcs:Nat->DArc):∀m,(cellLinksD f arcs m).length<=4*m
 | 0=>Nat.le_refl _
 | m+1=>by
   have h1:=cellLinksD_len f arcs m;have h2:=carcF_len f arcs m (cellLinksD f arcs m);show(carcF f arcs m (cellLinksD f arcs m)).length<=_;omega
def instLF(nets:Nat->Nat)(arcs:Nat->Nat->DArc)(ms:Nat->Nat)(i:Nat)(s:Int×List DLink):Int×List DLink:=(s.1+(nets i:Int),s.2++cellLinksD s.1 (arcs i) (ms i))
theorem instLF_in{nets:Nat->Nat}{arcs:Nat->Nat->DArc}{ms:Nat->Nat}{n:Nat}(h:∀i,i<n->nets i<=5/\ms i<=8):∀m,m<=n->0<=(fN (instLF nets arcs ms) m (0,[])).1/\(fN (instLF nets arcs ms) m (0,[])).1<=5*(m:Int)/\(fN (instLF nets arcs ms) m (0,[])).2.length<=32*m
 | 0,_=>⟨Int.le_refl _,Int.le_refl _,Nat.le_refl _⟩
 | m+1,hm=>by
   obtain⟨h1,h2,h3⟩:=instLF_in h m (by omega);obtain⟨h4,h5⟩:=h m (by omega);show 0<=(instLF nets arcs ms m (fN (instLF nets arcs ms) m (0,[]))).1/\(instLF nets arcs ms m (fN (instLF nets arcs ms) m (0,[]))).1<=_/\(instLF nets arcs ms m (fN (instLF nets arcs ms) m (0,[]))).2.length<=_;generalize fN (instLF nets arcs ms) m (0,[])=z at h1 h2 h3;unfold instLF;have:=cellLinksD_len z.1 (arcs m) (ms m);refine⟨by show 0<=z.1+(nets m:Int); omega,by show z.1+(nets m:Int)<=_; omega,?_⟩;show(z.2++cellLinksD z.1 (arcs m) (ms m)).length<=_;rw[List.length_append]; omega
def gridF(pl:Nat->DPlace)(i:Nat)(s:List (List Int)×List Int):List (List Int)×List Int:=if(pl i).2.2.2=true then(s.1,s.2.set (pl i).2.2.1.toNat (i:Int)) else(s.1.set (pl i).2.2.1.toNat (s.1.getD (pl i).2.2.1.toNat []++[(i:Int)]),s.2)
def drvN(pl:Nat->DPlace)(t:Int)(m:Nat):Int:=fN (fun i s=>if((pl i).2.2.1==t&&(pl i).2.2.2)=true then(i:Int) else s) m 0
theorem drvN_in(pl:Nat->DPlace)(t:Int):∀m,0<=drvN pl t m/\drvN pl t m<=m
 | 0=>⟨Int.le_refl _,Int.le_refl _⟩
 | m+1=>by
   have:=drvN_in pl t m;have e:drvN pl t (m+1)=if((pl m).2.2.1==t&&(pl m).2.2.2)=true then(m:Int) else drvN pl t m:=rfl
   rw[e];split <;> omega
theorem sinkL_succ(pl:Nat->DPlace)(t:Int)(m:Nat):fN (sinkL pl t) (m+1) []=if((pl m).2.2.1==t&&!(pl m).2.2.2)=true then fN (sinkL pl t) m []++[(m:Int)] else fN (sinkL pl t) m []:=rfl
theorem getD_set{α:Type}{l:List α}{i j:Nat}{x d:α}(hi:i<l.length):(l.set i x).getD j d=if j=i then x else l.getD j d:=by
 by_cases h:j=i
 ·subst h; simp[hi]
 ·rw[if_neg h]; simp[List.getElem?_set_ne (Ne.symm h)]
theorem grid_fold(pl:Nat->DPlace)(n:Nat):∀m,(∀i,i<m->inB (pl i).2.2.1 0 ((n:Int)-1)=true)->(fN (gridF pl) m (List.replicate n [],List.replicate n 0)).1.length=n/\(fN (gridF pl) m (List.replicate n [],List.replicate n 0)).2.length=n /\
  ∀k:Nat,k<n->(fN (gridF pl) m (List.replicate n [],List.replicate n 0)).1.getD k []=fN (sinkL pl k) m []/\(fN (gridF pl) m (List.replicate n [],List.replicate n 0)).2.getD k 0=drvN pl k m
 | 0,_=>⟨List.length_replicate,List.length_replicate,fun k hk=>by
   constructor
   ·show(List.replicate n ([]:List Int)).getD k []=[];rw[gq,List.getElem?_replicate,if_pos hk]; rfl
   ·show(List.replicate n (0:Int)).getD k 0=0;rw[gq,List.getElem?_replicate,if_pos hk]; rfl⟩
 | m+1,h=>by
   obtain⟨h1,h2,h3⟩:=grid_fold pl n m (fun i hi=>h i (by omega));have hm:=inB_iff.1 (h m (by omega));have e:fN (gridF pl) (m+1) (List.replicate n [],List.replicate n 0)=gridF pl m (fN (gridF pl) m (List.replicate n [],List.replicate n 0)):=rfl;rw[e];generalize fN (gridF pl) m (List.replicate n [],List.replicate n 0)=z at h1 h2 h3;have hlt:(pl m).2.2.1.toNat<n:=by omega
   have ed:∀k:Nat,drvN pl k (m+1)=if((pl m).2.2.1==(k:Int)&&(pl m).2.2.2)=true then(m:Int) else drvN pl k m:=fun _=>rfl
   have eq:∀k:Nat,((pl m).2.2.1==(k:Int))=decide (k=(pl m).2.2.1.toNat):=fun k=>by
    rw[Bool.eq_iff_iff,beq_iff_eq,dq];omega
   unfold gridF;cases hd:(pl m).2.2.2 with
   | true =>
     rw[if_pos rfl];refine⟨h1,by rw[List.length_set]; exact h2,fun k hk=>?_⟩;rw[sinkL_succ,ed k,eq,hd];refine⟨by simpa using (h3 k hk).1,?_⟩;show(z.2.set (pl m).2.2.1.toNat (m:Int)).getD k 0=_;rw[getD_set (by omega)];by_cases hkk:k=(pl m).2.2.1.toNat
     ·simp[hkk]
     ·rw[if_neg hkk,(h3 k hk).2]; simp[hkk]
   | false =>
     rw[if_neg (by simp)];refine⟨by rw[List.length_set]; exact h1,h2,fun k hk=>?_⟩;rw[sinkL_succ,ed k,eq,hd];refine⟨?_,by simpa using (h3 k hk).2⟩;show(z.1.set (pl m).2.2.1.toNat (z.1.getD (pl m).2.2.1.toNat []++[(m:Int)])).getD k []=_;rw[getD_set (by omega)];by_cases hkk:k=(pl m).2.2.1.toNat
     ·rw[if_pos hkk,<- hkk,(h3 k hk).1]; simp
     ·rw[if_neg hkk,(h3 k hk).1]; simp[hkk]
def wlinkF(d s x:Int)(t:Nat)(z:List DLink):List DLink:=z++[(2*d+(t:Int),2*s+(t:Int),2,x)]
def wsinkF(d:Int)(sn:List Int)(k:Nat)(z:List DLink):List DLink:=fN (wlinkF d (sn.getD k 0) (k:Int)) 2 z
theorem wsinkF_len(d:Int)(sn:List Int)(k:Nat)(z:List DLink):(wsinkF d sn k z).length=z.length+2:=by
 show((z++_)++_).length=_;rw[List.length_append,List.length_append]; rfl
def netLF(d:Nat->Int)(sn:Nat->List Int)(i:Nat)(z:List DLink):List DLink:=fN (wsinkF (d i) (sn i)) (sn i).length z
theorem wsink_len(d:Int)(sn:List Int)(z:List DLink):∀k,(fN (wsinkF d sn) k z).length=z.length+2*k
 | 0=>rfl
 | k+1=>by
   have:=wsink_len d sn z k;show(wsinkF d sn k (fN (wsinkF d sn) k z)).length=_;rw[wsinkF_len,this]; omega
theorem netL_len(d:Nat->Int)(sn:Nat->List Int)(z:List DLink){n c:Nat}(h:∀i,i<n->(sn i).length<=c):∀m,m<=n->(fN (netLF d sn) m z).length<=z.length+2*(c*m)
 | 0,_=>by simp[fN]
 | m+1,hm=>by
   have h1:=netL_len d sn z h m (by omega);have h2:=h m (by omega);show(fN (wsinkF (d m) (sn m)) (sn m).length (fN (netLF d sn) m z)).length<=_;rw[wsink_len,Nat.mul_add c];omega
def appF{α:Type}(f:Nat->α)(i:Nat)(s:List α):List α:=s++[f i]
theorem appF_len{α:Type}(f:Nat->α):∀n,(fN (appF f) n []).length=n
 | 0=>rfl
 | n+1=>by
   have:=appF_len f n;show(appF f n (fN (appF f) n [])).length=_;generalize fN (appF f) n []=z at this;unfold appF;rw[List.length_append,this]; rfl
theorem appF_get{α:Type}(f:Nat->α)(d:α):∀n i,i<n->(fN (appF f) n []).getD i d=f i
 | n+1,i,h=>by
   have hl:=appF_len f n;have ih:=appF_get f d n i;show(appF f n (fN (appF f) n [])).getD i d=_;generalize fN (appF f) n []=s at hl ih;unfold appF;rcases Nat.lt_or_ge i n with hi | hi
   ·rw[getD_left (by rw[hl]; exact hi)]; exact ih hi
   ·have:i=n:=by omega
    subst this;rw[getD_right (by rw[hl]; exact Nat.le_refl _),hl,Nat.sub_self]; rfl
def offs(x:Nat->DInst):Nat->Nat
 | 0=>0
 | i+1=>offs x i+(x i).2.2.length
theorem instP_get(x:DInst)(i:Int)(d:DPlace)(s:List DPlace):∀n k,k<n->(fN (instP x i) n s).getD (s.length+k) d=(i,(k:Int),x.2.2.getD k 0,(k:Int)==(x.2.2.length:Int)-1)
 | n+1,k,h=>by
   have hl:=instP_len x i s n;have ih:=instP_get x i d s n k;show(instP x i n (fN (instP x i) n s)).getD _ d=_;generalize fN (instP x i) n s=z at hl ih;unfold instP;rcases Nat.lt_or_ge k n with hk | hk
   ·rw[getD_left (by omega)]; exact ih hk
   ·have:k=n:=by omega
    subst this;rw[getD_right (by omega),hl,Nat.sub_self]; rfl
theorem instP_old(x:DInst)(i:Int)(d:DPlace)(s:List DPlace):∀n j,j<s.length->(fN (instP x i) n s).getD j d=s.getD j d
 | 0,_,_=>rfl
 | n+1,j,h=>by
   have hl:=instP_len x i s n;have ih:=instP_old x i d s n j h;show(instP x i n (fN (instP x i) n s)).getD _ d=_;generalize fN (instP x i) n s=z at hl ih;unfold instP;rw[getD_left (by omega)]; exact ih
theorem placesF_offs(x:Nat->DInst):∀n,(fN (placesF x) n []).length=offs x n
 | 0=>rfl
 | n+1=>by
   have:=placesF_offs x n;show(placesF x n (fN (placesF x) n [])).length=_;unfold placesF;rw[instP_len];show(fN (placesF x) n []).length+_=_;rw[this]; rfl
theorem placesF_get(x:Nat->DInst)(d:DPlace):∀n i k,i<n->k < (x i).2.2.length->(fN (placesF x) n []).getD (offs x i+k) d=((i:Int),(k:Int),(x i).2.2.getD k 0,(k:Int)==((x i).2.2.length:Int)-1)
 | n+1,i,k,hi,hk=>by
   have hl:=placesF_offs x n;have ih:=placesF_get x d n i k;show(placesF x n (fN (placesF x) n [])).getD _ d=_;generalize fN (placesF x) n []=z at hl ih;unfold placesF;rcases Nat.lt_or_ge i n with h | h
   ·have hlt:offs x i+k<z.length:=by
     rw[hl];have:∀m,i<m->offs x i+(x i).2.2.length<=offs x m:=by
      intro m
      induction m with
      | zero=>intro h; omega
      | succ m ih =>
        intro h;show _<=offs x m+_;rcases Nat.lt_or_ge i m with h' | h'
        ·have:=ih h'; omega
        ·have:i=m:=by omega
         subst this; omega
     have:=this n h;omega
    rw[instP_old _ _ _ _ _ _ hlt];exact ih h hk
   ·have:i=n:=by omega
    subst this;rw[<- hl];exact instP_get _ _ _ _ _ _ hk
theorem portP_old(y:Nat->DPort)(d:DPlace)(s:List DPlace):∀n j,j<s.length->(fN (portP y) n s).getD j d=s.getD j d
 | 0,_,_=>rfl
 | n+1,j,h=>by
   have hl:=portP_len y s n;have ih:=portP_old y d s n j h;show(portP y n (fN (portP y) n s)).getD _ d=_;generalize fN (portP y) n s=z at hl ih;unfold portP;rw[getD_left (by omega)]; exact ih
theorem portP_get(y:Nat->DPort)(d:DPlace)(s:List DPlace):∀n k,k<n->(fN (portP y) n s).getD (s.length+k) d=(-1,(k:Int),(y k).2.2,(y k).2.1==1)
 | n+1,k,h=>by
   have hl:=portP_len y s n;have ih:=portP_get y d s n k;show(portP y n (fN (portP y) n s)).getD _ d=_;generalize fN (portP y) n s=z at hl ih;unfold portP;rcases Nat.lt_or_ge k n with hk | hk
   ·rw[getD_left (by omega)]; exact ih hk
   ·have:k=n:=by omega
    subst this;rw[getD_right (by omega),hl,Nat.sub_self]; rfl
theorem offs_inv(x:Nat->DInst):∀n j,j<offs x n->∃i k,i<n/\k < (x i).2.2.length/\j=offs x i+k
 | n+1,j,h=>by
   have h:j<offs x n+(x n).2.2.length:=h;rcases Nat.lt_or_ge j (offs x n) with hj | hj
   ·obtain⟨i,k,h1,h2,h3⟩:=offs_inv x n j hj;exact⟨i,k,by omega,h2,h3⟩
   ·exact⟨n,j-offs x n,by omega,by omega,by omega⟩
theorem offs_lt(x:Nat->DInst){i n k:Nat}(hi:i<n)(hk:k < (x i).2.2.length):offs x i+k<offs x n:=by
 induction n with
 | zero=>omega
 | succ n ih =>
   show _<offs x n+(x n).2.2.length;rcases Nat.lt_or_ge i n with h | h
   ·have:=ih h; omega
   ·have:i=n:=by omega
    subst this; omega
theorem places_len(ni np:Nat)(x:Nat->DInst)(y:Nat->DPort):(placesN ni np x y).length=offs x ni+np:=by
 unfold placesN;rw[portP_len,placesF_offs]
theorem places_inst(ni np:Nat)(x:Nat->DInst)(y:Nat->DPort)(d:DPlace){i k:Nat}(hi:i<ni)(hk:k < (x i).2.2.length):(placesN ni np x y).getD (offs x i+k) d=((i:Int),(k:Int),(x i).2.2.getD k 0,(k:Int)==((x i).2.2.length:Int)-1):=by
 unfold placesN;rw[portP_old _ _ _ _ _ (by rw[placesF_offs]; exact offs_lt x hi hk)];exact placesF_get x d ni i k hi hk
theorem places_port(ni np:Nat)(x:Nat->DInst)(y:Nat->DPort)(d:DPlace){k:Nat}(hk:k<np):(placesN ni np x y).getD (offs x ni+k) d=(-1,(k:Int),(y k).2.2,(y k).2.1==1):=by
 unfold placesN;rw[<- placesF_offs x ni];exact portP_get _ _ _ _ _ hk
theorem place_only(ni np:Nat)(x:Nat->DInst)(y:Nat->DPort)(d:DPlace){i k:Nat}(hi:i<ni)(hk:k < (x i).2.2.length){j:Nat}(hj:j < (placesN ni np x y).length):(((placesN ni np x y).getD j d).1==(i:Int)&&((placesN ni np x y).getD j d).2.1==(k:Int))=decide (j=offs x i+k):=by
 rw[Bool.eq_iff_iff,ba,beq_iff_eq,beq_iff_eq,dq];rw[places_len] at hj;constructor
 ·rintro⟨h1,h2⟩;rcases Nat.lt_or_ge j (offs x ni) with h | h
  ·obtain⟨i',k',h3,h4,h5⟩:=offs_inv x ni j h;subst h5;rw[places_inst ni np x y d h3 h4] at h1 h2;have e1:i'=i:=Int.ofNat.inj h1;have e2:k'=k:=Int.ofNat.inj h2;rw[e1,e2]
  ·have e:j=offs x ni+(j-offs x ni):=by omega
   rw[e,places_port ni np x y d (by omega)] at h1;have h1:(-1:Int)=(i:Int):=h1;omega
 ·rintro rfl;rw[places_inst ni np x y d hi hk];exact⟨rfl,rfl⟩
def cntF(P:Nat->Bool)(m:Nat):Nat:=fN (fun i s=>if P i=true then s+1 else s) m 0
theorem cntF_succ(P:Nat->Bool)(m:Nat):cntF P (m+1)=if P m=true then cntF P m+1 else cntF P m:=rfl
theorem cntF_one{P:Nat->Bool}:∀{m i:Nat},i<m->P i=true->1<=cntF P m
 | m+1,i,h,hp=>by
   rw[cntF_succ];rcases Nat.lt_or_ge i m with h' | h'
   ·have:=cntF_one h' hp; split <;> omega
   ·have:i=m:=by omega
    subst this;rw[if_pos hp]; omega
theorem cntF_two{P:Nat->Bool}:∀{m i j:Nat},i<j->j<m->P i=true->P j=true->2<=cntF P m
 | m+1,i,j,h1,h2,hi,hj=>by
   rw[cntF_succ];rcases Nat.lt_or_ge j m with h' | h'
   ·have:=cntF_two h1 h' hi hj; split <;> omega
   ·have:j=m:=by omega
    subst this;have:=cntF_one h1 hi;rw[if_pos hj]; omega
theorem cntF_ex{P:Nat->Bool}:∀{m:Nat},1<=cntF P m->∃i,i<m/\P i=true
 | 0,h=>by simp[cntF,fN] at h
 | m+1,h=>by
   rw[cntF_succ] at h;by_cases hp:P m=true
   ·exact⟨m,by omega,hp⟩
   ·rw[if_neg hp] at h;obtain⟨i,h1,h2⟩:=cntF_ex h;exact⟨i,by omega,h2⟩
def drvB(pl:Nat->DPlace)(t:Int)(j:Nat):Bool:=(pl j).2.2.1==t&&(pl j).2.2.2
theorem drvN_last{pl:Nat->DPlace}{t:Int}:∀{m i:Nat},i<m->drvB pl t i=true->(∀j,i<j->j<m->drvB pl t j=false)->drvN pl t m=(i:Int)
 | m+1,i,h,hi,hn=>by
   have e:drvN pl t (m+1)=if drvB pl t m=true then(m:Int) else drvN pl t m:=rfl
   rw[e];rcases Nat.lt_or_ge i m with h' | h'
   ·rw[if_neg (by rw[hn m h' (by omega)]; simp)];exact drvN_last h' hi (fun j h1 h2=>hn j h1 (by omega))
   ·have:i=m:=by omega
    subst this;rw[if_pos hi]
theorem drv_one{pl:Nat->DPlace}{t:Int}{m:Nat}(h:cntF (drvB pl t) m=1):∃i,i<m/\drvB pl t i=true/\(∀j,j<m->drvB pl t j=decide (j=i))/\drvN pl t m=(i:Int):=by
 obtain⟨i,h1,h2⟩:=cntF_ex (Nat.le_of_eq h.symm);have hu:∀j,j<m->drvB pl t j=true->j=i:=fun j hj hd=>by
  rcases Nat.lt_trichotomy i j with h' | h' | h'
  ·have:=cntF_two h' hj h2 hd; omega
  ·exact h'.symm
  ·have:=cntF_two h' h1 hd h2; omega
 refine⟨i,h1,h2,fun j hj=>?_,drvN_last h1 h2 (fun j hij hj=>?_)⟩
 ·rw[Bool.eq_iff_iff,dq];exact⟨hu j hj,fun e=>by rw[e]; exact h2⟩
 ·rw[<- Bool.not_eq_true];intro hd;have:=hu j hj hd;omega
theorem cntF_add(P:Nat->Bool)(m:Nat):∀n,cntF P (m+n)=cntF P m+cntF (fun i=>P (m+i)) n
 | 0=>rfl
 | n+1=>by
   rw[<- Nat.add_assoc,cntF_succ,cntF_succ,cntF_add P m n];split <;> omega
theorem cntF_last{P:Nat->Bool}{n:Nat}(h:∀i,i<n->P i=false):cntF P (n+1)=if P n=true then 1 else 0:=by
 have:∀m,m<=n->cntF P m=0:=by
  intro m
  induction m with
  | zero=>intro _; rfl
  | succ m ih=>intro hm; rw[cntF_succ,h m (by omega),if_neg (by simp),ih (by omega)]
 rw[cntF_succ,this n (Nat.le_refl _)]
theorem inst_cnt{ni np:Nat}{x:Nat->DInst}{y:Nat->DPort}{d:DPlace}{nn:Nat}(hx:∀i,i<ni->1<=(x i).2.2.length/\inB ((x i).2.2.getD ((x i).2.2.length-1) 0) 0 ((nn:Int)-1)=true):∀n,n<=ni->(fN (instF x) n (List.replicate nn 0)).length=nn/\∀t:Nat,t<nn->(fN (instF x) n (List.replicate nn 0)).getD t 0=(cntF (drvB (fun j=>(placesN ni np x y).getD j d) t) (offs x n):Nat)
 | 0,_=>⟨List.length_replicate,fun t ht=>by
   show(List.replicate nn (0:Int)).getD t 0=_;rw[gq,List.getElem?_replicate,if_pos ht]; rfl⟩
 | n+1,hn=>by
   obtain⟨h1,h2⟩:=inst_cnt (np:=np) (y:=y) (d:=d) hx n (by omega);obtain⟨h3,h4⟩:=hx n (by omega);have h4:=inB_iff.1 h4;have e:fN (instF x) (n+1) (List.replicate nn 0)=instF x n (fN (instF x) n (List.replicate nn 0)):=rfl;rw[e];generalize fN (instF x) n (List.replicate nn 0)=v at h1 h2;unfold instF incAt;refine⟨by rw[List.length_set]; exact h1,fun t ht=>?_⟩;rw[getD_set (by omega)];show _=((cntF _ (offs x n+(x n).2.2.length):Nat):Int);rw[cntF_add];have hk:∀k,k < (x n).2.2.length->drvB (fun j=>(placesN ni np x y).getD j d) t (offs x n+k)=((x n).2.2.getD k 0==(t:Int)&&(k:Int)==((x n).2.2.length:Int)-1):=fun k hk=>by
    unfold drvB;show(((placesN ni np x y).getD (offs x n+k) d).2.2.1==(t:Int)&&((placesN ni np x y).getD (offs x n+k) d).2.2.2)=_;rw[places_inst ni np x y d (by omega) hk]
   obtain⟨m,hm⟩:∃m,(x n).2.2.length=m+1:=⟨(x n).2.2.length-1,by omega⟩;have hm1:(x n).2.2.length-1=m:=by omega
   rw[hm1] at h4;rw[hm1,hm,cntF_last (fun i hi=>by rw[hk i (by omega),hm]; simp; omega),hk m (by omega),hm];have e1:((m:Int)==((m+1:Nat):Int)-1)=true:=by simp
   rw[e1,Bool.and_true];have e2:((x n).2.2.getD m 0==(t:Int))=decide (t=((x n).2.2.getD m 0).toNat):=by
    rw[Bool.eq_iff_iff,beq_iff_eq,dq];omega
   rw[e2];by_cases ht':t=((x n).2.2.getD m 0).toNat
   ·rw[if_pos ht',<- ht',h2 t ht,decide_eq_true rfl,if_pos rfl]; rfl
   ·rw[if_neg ht',h2 t ht,decide_eq_false ht',if_neg (by simp)]; omega
theorem port_cnt{ni np:Nat}{x:Nat->DInst}{y:Nat->DPort}{d:DPlace}{nn:Nat}(hx:∀i,i<ni->1<=(x i).2.2.length/\inB ((x i).2.2.getD ((x i).2.2.length-1) 0) 0 ((nn:Int)-1)=true)(hy:∀i,i<np->inB (y i).2.2 0 ((nn:Int)-1)=true):∀n,n<=np->(fN (portF y) n (fN (instF x) ni (List.replicate nn 0))).length=nn/\∀t:Nat,t<nn->(fN (portF y) n (fN (instF x) ni (List.replicate nn 0))).getD t 0=(cntF (drvB (fun j=>(placesN ni np x y).getD j d) t) (offs x ni+n):Nat)
 | 0,_=>inst_cnt hx ni (Nat.le_refl _)
 | n+1,hn=>by
   obtain⟨h1,h2⟩:=port_cnt (d:=d) hx hy n (by omega);have h4:=inB_iff.1 (hy n (by omega));have e:fN (portF y) (n+1) (fN (instF x) ni (List.replicate nn 0))=portF y n (fN (portF y) n (fN (instF x) ni (List.replicate nn 0))):=rfl;rw[e];generalize fN (portF y) n (fN (instF x) ni (List.replicate nn 0))=v at h1 h2;have hk:∀t:Nat,drvB (fun j=>(placesN ni np x y).getD j d) t (offs x ni+n)=((y n).2.2==(t:Int)&&(y n).2.1==1):=fun t=>by
    unfold drvB;show(((placesN ni np x y).getD (offs x ni+n) d).2.2.1==(t:Int)&&((placesN ni np x y).getD (offs x ni+n) d).2.2.2)=_;rw[places_port ni np x y d (by omega)]
   have e2:∀t:Nat,((y n).2.2==(t:Int))=decide (t=(y n).2.2.toNat):=fun t=>by
    rw[Bool.eq_iff_iff,beq_iff_eq,dq];omega
   unfold portF;split
   ·rename_i hd;unfold incAt;refine⟨by rw[List.length_set]; exact h1,fun t ht=>?_⟩;rw[getD_set (by omega),<- Nat.add_assoc,cntF_succ,hk,e2,hd];by_cases ht':t=(y n).2.2.toNat
    ·rw[if_pos ht',<- ht',h2 t ht]; simp
    ·rw[if_neg ht',h2 t ht]; simp[ht']
   ·rename_i hd;refine⟨h1,fun t ht=>?_⟩;rw[h2 t ht,<- Nat.add_assoc,cntF_succ,hk];simp[hd]
end Go.Proofs.Xd
end
section
namespace Go.Proofs.Xd
open Go Go.Proofs.Xv Go.Proofs.Xl
end Go.Proofs.Xd
end
section
namespace Go.Proofs.Xd
open Go Go.Proofs Go.Proofs.Xl
end Go.Proofs.Xd
end
section
namespace Go.Proofs.Xd
open Go.Proofs.Xl
theorem find_ext{α:Type}{l:List α}{p q:α->Bool}(h:∀a∈l,p a=q a):l.find? p=l.find? q:=by
 induction l with
 | nil=>rfl
 | cons a r ih =>
   rw[List.find?_cons,List.find?_cons,h a (by simp),ih (fun b hb=>h b (by simp[hb]))]
theorem countP_split{α:Type}(l:List α)(p q r:α->Bool)(h:∀a∈l,(p a).toNat=(q a).toNat+(r a).toNat):l.countP p=l.countP q+l.countP r:=by
 induction l with
 | nil=>rfl
 | cons a t ih =>
   have h1:=h a (by simp);have h2:=ih (fun b hb=>h b (by simp[hb]));rw[List.countP_cons,List.countP_cons,List.countP_cons];cases hp:p a <;> cases hq:q a <;> cases hr:r a <;> simp[hp,hq,hr] at h1 ⊢ <;> omega
section
variable (M N:Nat) (fr to:Nat->Nat) (lv:Nat->Bool)
def cntO(out:List Nat)(v:Nat):Nat:=(List.range M).countP fun i=>lv i&&to i==v&&!out.contains (fr i)
def nextV(out:List Nat):Option Nat:=(List.range N).find? fun v=>!out.contains v&&cntO M fr to lv out v==0
def ordGo:Nat->List Nat->Option (List Nat)
 | 0,out=>some out
 | k+1,out=>match nextV M N fr to lv out with
   | none=>none
   | some v=>ordGo k (out++[v])
variable {M N fr to lv}
theorem countP_rng(p:Nat->Bool):(List.range M).countP p<=M:=by
 have:=List.countP_le_length (p:=p) (l:=List.range M)
 rwa [List.length_range] at this
structure OInv(M N:Nat)(fr to:Nat->Nat)(lv:Nat->Bool)(out:List Nat)(o:List Int):Prop where
 len:o.length=N
 un:∀v,v<N->v ∉ out->o.getD v 0=cntO M fr to lv out v
 li:∀v,v<N->v∈out->o.getD v 0<0
 lo:∀v,v<N -> -(1+(out.length:Int)*M)<=o.getD v 0
 hi:∀v,v<N->o.getD v 0<=M
theorem next_ok{out:List Nat}{v:Nat}(h:nextV M N fr to lv out=some v):v<N/\v ∉ out:=by
 unfold nextV at h;have h1:=List.mem_of_find?_eq_some h;have h2:=List.find?_some h;rw[ba,Bool.not_eq_true',<- Bool.not_eq_true,List.contains_iff_mem] at h2;exact⟨List.mem_range.1 h1,h2.1⟩
def listV(N:Nat)(out:List Nat):List Bool:=out.foldl (fun l v=>l.set v true) (List.replicate N false)
theorem setB_get{o:List Bool}{i v:Nat}(x:Bool)(hi:i<o.length):(o.set i x).getD v false=if v=i then x else o.getD v false:=by
 rw[gq,gq,List.getElem?_set];by_cases h:i=v
 ·subst h; simp[hi]
 ·rw[if_neg h,if_neg (Ne.symm h)]
theorem listV_app(out:List Nat)(v:Nat):listV N (out++[v])=(listV N out).set v true:=by
 unfold listV;rw[List.foldl_append];rfl
theorem setsB_get(out:List Nat)(o:List Bool)(h:∀v∈out,v<o.length)(w:Nat):(out.foldl (fun l v=>l.set v true) o).length=o.length/\(out.foldl (fun l v=>l.set v true) o).getD w false=(out.contains w||o.getD w false):=by
 induction out generalizing o with
 | nil=>simp
 | cons v r ih =>
   obtain⟨h1,h2⟩:=ih (o.set v true) (fun x hx=>by rw[List.length_set]; exact h x (by simp[hx]));rw[List.length_set] at h1;refine⟨h1,?_⟩;rw[List.foldl_cons,h2,setB_get _ (h v (by simp)),List.contains_cons];by_cases e:w=v
   ·subst e; simp
   ·have:(w==v)=false:=by simp[e]
    rw[if_neg e,this,Bool.false_or]
theorem listV_get{out:List Nat}(h:∀v∈out,v<N)(w:Nat):(listV N out).length=N/\(listV N out).getD w false=out.contains w:=by
 obtain⟨h1,h2⟩:=setsB_get out (List.replicate N false) (fun v hv=>by rw[List.length_replicate]; exact h v hv) w;refine⟨h1.trans List.length_replicate,?_⟩;have e0:(List.replicate N false).getD w false=false:=by
  rw[gq,List.getElem?_replicate];split <;> rfl
 have:(listV N out).getD w false=(out.contains w||(List.replicate N false).getD w false):=h2;rw[this,e0,Bool.or_false]
def waitS(fr to:Nat->Nat)(lv:Nat->Bool)(out:List Nat)(k:Nat)(w:List Bool):List Bool:=if(lv k&&!out.contains (fr k))=true then w.set (to k) true else w
theorem wait_get(ht:∀i,i<M->to i<N)(out:List Nat)(v:Nat):∀m,m<=M->(fN (waitS fr to lv out) m (List.replicate N false)).length=N/\(fN (waitS fr to lv out) m (List.replicate N false)).getD v false=(List.range m).any fun i=>lv i&&to i==v&&!out.contains (fr i):=by
 intro m
 induction m with
 | zero =>
   intro _;refine⟨List.length_replicate,?_⟩;show(List.replicate N false).getD v false=false;rw[gq,List.getElem?_replicate];split <;> rfl
 | succ m ih =>
   intro hm;obtain⟨h1,h2⟩:=ih (by omega);rw[List.range_succ,List.any_append,<- h2];show(waitS fr to lv out m (fN (waitS fr to lv out) m (List.replicate N false))).length=N/\(waitS fr to lv out m (fN (waitS fr to lv out) m (List.replicate N false))).getD v false=_;generalize fN (waitS fr to lv out) m (List.replicate N false)=w at h1 h2;unfold waitS;by_cases hc:(lv m&&!out.contains (fr m))=true
   ·rw[if_pos hc];refine⟨by rw[List.length_set,h1],?_⟩;rw[setB_get _ (by rw[h1]; exact ht m (by omega))];rw[ba,Bool.not_eq_true'] at hc;simp only[List.any_cons,List.any_nil,Bool.or_false,hc.1,hc.2,Bool.true_and,Bool.not_false,Bool.and_true];by_cases e:v=to m
    ·subst e; simp
    ·have:(to m==v)=false:=by simp[Ne.symm e]
     rw[if_neg e,this,Bool.or_false]
   ·rw[if_neg hc];refine⟨h1,?_⟩;have:(lv m&&to m==v&&!out.contains (fr m))=false:=by
     rw[Bool.eq_false_iff];intro h;apply hc;simp only[ba] at h ⊢;exact⟨h.1.1,h.2⟩
    simp only[List.any_cons,List.any_nil,Bool.or_false,this]
theorem wait_next(ht:∀i,i<M->to i<N){out:List Nat}(ho:∀v∈out,v<N):(List.range N).find? (fun v=>!((listV N out).getD v false||(fN (waitS fr to lv out) M (List.replicate N false)).getD v false))=nextV M N fr to lv out:=by
 unfold nextV;refine find_ext (fun v _=>?_);rw[(listV_get ho v).2,(wait_get ht out v M (Nat.le_refl _)).2,Bool.not_or];congr 1;rw[Bool.eq_iff_iff,Bool.not_eq_true',beq_iff_eq];unfold cntO;rw[List.countP_eq_zero,<- Bool.not_eq_true,List.any_eq_true];constructor
 ·intro h a ha hp;exact h ⟨a,ha,hp⟩
 ·rintro h ⟨a,ha,hp⟩;exact h a ha hp
end
end Go.Proofs.Xd
end
section
namespace Go.Proofs.YtphnknndgfgepaaGreatDoor
open Go Go.Proofs Go.Proofs.Xv Go.Proofs.Xl Go.Proofs.Xd
theorem r150(a b c:Int):u150 a b c=some (inB a b c):=rfl
theorem r97(a b c:Int):u97 a b c=some (inB a b c):=rfl
theorem r211(a b c:Int):u211 a b c=some (!inB a b c):=by
 unfold u211;rw[r150,gP ⟨rfl,trivial⟩,vS]
theorem r210c211(xs:List Int)(b c:Int)(h:xs.length<=9223372036854775807):u210c211 xs (b,c)=some (xs.any fun x=>!inB x b c):=by
 have h1:u241c211 xs (b,c)=_:=idx_some h (fun i=>!inB (xs.getD i 0) b c) (fun g i hi=>idx_el hi h (r211 _ _ _)) (fun g=>aE);have:=has_some h1;rw[any_getD xs 0 (fun x=>!inB x b c)] at this;exact this
theorem r173(xs:List Int)(b c:Int)(h:xs.length<=9223372036854775807):u173 xs b c=some (xs.all (inB · b c)):=by
 unfold u173;rw[r210c211 _ _ _ h,gP ⟨rfl,trivial⟩,vS,all_any]
theorem r174(xs:List Int)(h:xs.length<=9223372036854775807)(h1:1<=xs.length):u174 xs=some (incB xs):=by
 have key:=lp_allK h (fun i=>decide (xs.getD i 0<=xs.getD (i-1) 0)) (some false) (e:=some true) (F:=u174L1 xs) 1 h1 (fun g i hk hi=>by
  have e:((i:Int)-1).toNat=i-1:=by omega
  refine(all_el hi h ⟨oo,oo,oo,trivial⟩).trans ?_;rw[e]; rfl) (fun g=>aE)
 refine key.trans ?_;unfold incB;have:((List.range xs.length).any fun i=>decide (1<=i)&&decide (xs.getD i 0<=xs.getD (i-1) 0))=(List.range xs.length).any fun i=>decide (0<i)&&decide (xs.getD i 0<=xs.getD (i-1) 0):=rfl;rw[this];cases(List.range xs.length).any fun i=>decide (0<i)&&decide (xs.getD i 0<=xs.getD (i-1) 0) <;> rfl
theorem r287(xs:List Int)(h:xs.length<=9223372036854775807):u287 xs=some (isAxis xs):=by
 unfold u287;have e:u129 xs=some (xs.length:Int):=rfl;have ed:∀a:Bool,(a=true->1<=xs.length)->(a=true/\True->(u174 xs).isSome=true):=fun a ha hc=>by rw[r174 xs h (ha hc.1)]; rfl
 rw[e,vS,r150,vS,r173 xs 0 100000 h,vS,gP ⟨rfl,rfl,fun _=>rfl,ed _ (fun hc=>by
  simp only[inB,ba,dq] at hc; omega),trivial⟩]
 congr 1;unfold isAxis;by_cases h1:1<=xs.length
 ·rw[r174 xs h h1,vS];congr 2;rw[Bool.eq_iff_iff];simp only[inB,ba,dq];omega
 ·have h2:decide (1<=xs.length)=false:=by simpa using h1
  have h3:inB (xs.length:Int) 1 4=false:=by
   rw[<- Bool.not_eq_true,inB_iff]; omega
  rw[h2,h3]; rfl
theorem r285(xs:List Int)(h:xs.length<=9223372036854775807):u285 xs=some (isAxis xs):=by
 have key:=lp_all (n:=xs.length) h (fun i=>!inB (xs.getD i 0) 0 100000||decide (0<i)&&decide (xs.getD i 0<=xs.getD (i-1) 0)) (some false) (e:=u285J0 xs ()) (F:=u285L1 xs) (fun g i hi=>by
  have e:((i:Int)-1).toNat=i-1:=by omega
  have e2:decide ((0:Int) < (i:Int))=decide (0<i):=by rw[decide_eq_decide]; omega
  refine(all_el hi h ⟨oo,rfl,fun hc=>oo,fun hc=>⟨by have:=hc.1; simp at this; omega,by omega⟩,fun hc=>oo,trivial⟩).trans ?_;rw[e,r97,vS,e2]; rfl) (fun g=>aE)
 refine key.trans ?_;unfold isAxis u285J0;have e3:((List.range xs.length).any fun i=>!inB (xs.getD i 0) 0 100000||decide (0<i)&&decide (xs.getD i 0<=xs.getD (i-1) 0))=!(xs.all (inB · 0 100000)&&incB xs):=by
  rw[<- all_any,<- any_getD xs 0 (fun x=>!inB x 0 100000),incB,<- Bool.not_or,Bool.not_not];rw[Bool.eq_iff_iff,Bool.or_eq_true,List.any_eq_true,List.any_eq_true,List.any_eq_true];constructor
  ·rintro⟨i,h1,h2⟩;rcases Bool.or_eq_true _ _ ▸ h2 with h3 | h3
   ·exact .inl ⟨i,h1,h3⟩
   ·exact .inr ⟨i,h1,h3⟩
  ·rintro(⟨i,h1,h2⟩ | ⟨i,h1,h2⟩)
   ·exact⟨i,h1,by rw[h2]; rfl⟩
   ·exact⟨i,h1,by rw[h2,Bool.or_true]⟩
 rw[e3];cases hA:(xs.all (inB · 0 100000)&&incB xs) with
 | false=>rw[if_pos (by rfl),Bool.and_assoc,hA,Bool.and_false]
 | true =>
   rw[if_neg (by simp),Bool.and_assoc,hA,Bool.and_true];refine congrArg some ?_;rw[Bool.eq_iff_iff];simp only[ba,dq];omega
theorem r281(t:Y140)(hw:wf y140 t):u281 t=some (isTable t):=by
 obtain⟨⟨h1,_⟩,⟨h2,_⟩,h3,_⟩:=hw;unfold u281;have hb:(isAxis t.1&&isAxis t.2.1)=true/\True->in64 ((t.1.length:Int)*(t.2.1.length:Int)):=fun hc=>by
  have hc:=hc.1;rw[ba] at hc;obtain⟨a1,a2⟩:=axis_len hc.1;obtain⟨b1,b2⟩:=axis_len hc.2;have c2:t.1.length*t.2.1.length<=4*4:=Nat.mul_le_mul a2 b2;have e:(t.1.length:Int)*(t.2.1.length:Int)=((t.1.length*t.2.1.length:Nat):Int):=by simp
  rw[e];exact oo
 rw[r287 _ h1,r287 _ h2,r173 _ _ _ h3,vS,vS,vS,gP ⟨rfl,fun _=>rfl,hb,fun _=>rfl,trivial⟩];congr 1;unfold isTable;congr 2;rw[Bool.eq_iff_iff];simp only[beq_iff_eq,dq];constructor
 ·intro h; exact_mod_cast h
 ·intro h; exact_mod_cast h
theorem r277(t:Y140)(hw:wf y140 t):u277 t=some (isTable t):=by
 obtain⟨⟨h1,_⟩,⟨h2,_⟩,h3,_⟩:=hw;unfold u277;have hb:(!isAxis t.1||!isAxis t.2.1)=false/\True->in64 ((t.1.length:Int)*(t.2.1.length:Int)):=fun hc=>by
  have hc:=hc.1;simp only[Bool.or_eq_false_iff,Bool.not_eq_false'] at hc;obtain⟨a1,a2⟩:=axis_len hc.1;obtain⟨b1,b2⟩:=axis_len hc.2;have c2:t.1.length*t.2.1.length<=4*4:=Nat.mul_le_mul a2 b2;have e:(t.1.length:Int)*(t.2.1.length:Int)=((t.1.length*t.2.1.length:Nat):Int):=by simp
  rw[e];exact oo
 rw[r285 _ h1,r285 _ h2,vS,vS,gP ⟨rfl,fun _=>rfl,hb,trivial⟩];have key:=lp_all (n:=t.2.2.length) h3 (fun i=>!inB (t.2.2.getD i 0) (-1000000) 1000000) (some false) (e:=some true) (F:=u277L1 t) (fun g i hi=>all_el hi h3 ⟨oo,rfl,trivial⟩) (fun g=>aE);rw[key,any_getD t.2.2 0 (fun x=>!inB x (-1000000) 1000000)];have e:((t.2.2.length:Int) != (t.1.length:Int)*(t.2.1.length:Int))=!decide (t.2.2.length=t.1.length*t.2.1.length):=by
  rw[Bool.eq_iff_iff];simp only[bne_iff_ne,Bool.not_eq_true',decide_eq_false_iff_not,ne_eq];constructor
  ·intro h k; exact h (by exact_mod_cast k)
  ·intro h k; exact h (by exact_mod_cast k)
 rw[e];unfold isTable;rw[<- all_any];cases isAxis t.1 <;> cases isAxis t.2.1 <;> cases decide (t.2.2.length=t.1.length*t.2.1.length) <;> cases(t.2.2.any fun x=>!inB x (-1000000) 1000000) <;> rfl
end Go.Proofs.YtphnknndgfgepaaGreatDoor
end
section
namespace Go.Proofs.YtphnknndgfgepaaGreatDoor
open Go Go.Proofs Go.Proofs.Sv Go.Proofs.Xv Go.Proofs.Xl Go.Proofs.Xd
theorem r151(s:ByteArray)(h:s.size<=9223372036854775807):u151 s=some (nmB s):=by
 have key:=lp_all (n:=s.size) h (fun i=>!chB (byteAt s i) i) (some false) (e:=u151J0 s ()) (F:=u151L1 s) (fun g i hi=>by
  refine(all_el2 hi h ⟨oo,fun _=>oo,trivial⟩ ⟨oo,fun _=>oo,trivial⟩).trans ?_;have e2:decide ((0:Int) < (i:Int))=decide (0<i):=by rw[decide_eq_decide]; omega
  have e3:((i:Int)).toNat=i:=rfl;rw[e2,e3];unfold chB lowB digB;rw[Bool.not_or]) (fun g=>aE)
 refine key.trans ?_;unfold nmB u151J0;rw[nmTo_any];cases(List.range s.size).any fun i=>!chB (byteAt s i) i
 ·rfl
 ·rfl
theorem r109(s:ByteArray)(h:s.size<=9223372036854775807):u109 s=some (nmB s):=by
 unfold u109;have t1:u167 s ⟨#[97,98,99,100,101,102,103,104,105,106,107,108,109,110,111,112,113,114,115,116,117,118,119,120,121,122,48,49,50,51,52,53,54,55,56,57]⟩=some ⟨(Lib.trimS s.data.toList low36).toArray⟩:=if_pos ⟨by decide,by decide⟩;have t2:∀c,u168 ⟨#[97,98,99,100,101,102,103,104,105,106,107,108,109,110,111,112,113,114,115,116,117,118,119,120,121,122]⟩ c=some (Lib.indexByte low26 c.toNat.toUInt8):=fun _=>rfl;rw[t1,t2,r150,vS,vS,vS,gP ⟨rfl,fun _=>rfl,fun hc=>⟨by decide,by
  have:=hc.1;rw[ba,inB_iff] at this;omega⟩,fun _=>rfl,trivial⟩,lE]
 refine congrArg some ?_;show(inB (s.size:Int) 1 8&&decide ((⟨(Lib.trimS s.data.toList low36).toArray⟩:ByteArray)=⟨#[]⟩)&&decide (0<=Lib.indexByte low26 (byteAt s (Int.toNat 0)).toNat.toUInt8))=nmB s;by_cases hb:1<=s.size/\s.size<=8
 ·rw[nmB_trim s hb.1 hb.2];have e1:inB (s.size:Int) 1 8=true:=by rw[inB_iff]; omega
  have e2:decide ((⟨(Lib.trimS s.data.toList low36).toArray⟩:ByteArray)=⟨#[]⟩)=(Lib.trimS s.data.toList low36==[]):=by
   rw[Bool.eq_iff_iff,dq,beq_iff_eq];constructor
   ·intro h;injection h with h;have:=congrArg Array.toList h;simpa using this
   ·intro h; rw[h]
  rw[e1,e2,Bool.true_and];rfl
 ·have e1:inB (s.size:Int) 1 8=false:=by rw[<- Bool.not_eq_true,inB_iff]; omega
  have e2:nmB s=false:=by
   rw[<- Bool.not_eq_true];intro hc;simp only[nmB,ba,dq] at hc;omega
  rw[e1,e2]; rfl
theorem r245(xs:List ByteArray)(x:ByteArray)(h:xs.length<=9223372036854775807):u245 xs x=some (xs.any fun y=>decide (x=y)):=by
 have h1:u264 xs x=_:=idx_some h (fun i=>decide (x=xs.getD i (dflt .str))) (fun g i hi=>by
  refine(if_pos (by simpa using hi)).trans ?_;rw[gP ⟨oo,trivial⟩,gP ⟨oo,trivial⟩];rfl) (fun g=>aE)
 have:=has_some h1;rw[any_getD xs (dflt .str) (fun y=>decide (x=y))] at this;exact this
theorem r213(xs:List ByteArray)(hw:wf (.sl .str) xs):u213 xs=some (namesB xs.length fun i=>xs.getD i (dflt .str)):=by
 have h:=hw.1;have key:=lp_all (n:=xs.length) h (fun i=>!nmB (xs.getD i (dflt .str))||dupB (fun i=>xs.getD i (dflt .str)) i) (some false) (e:=some true) (F:=u213L1 xs) (fun g i hi=>by
  have hs:=wf_el (d:=dflt .str) hi hw;have hl:(xs.take i).length<=9223372036854775807:=by rw[List.length_take]; omega
  have e1:=r109 _ hs;have e2:=r245 (xs.take i) (xs.getD i (dflt .str)) hl;rw[take_any xs (dflt .str) i hi] at e2;have e3:((i:Int)).toNat=i:=rfl;refine(if_pos (by simpa using hi)).trans ?_;rw[e3,e1,e2,vS,vS,gP ⟨oo,trivial⟩,gP ⟨rfl,fun _=>⟨by omega,by omega,by omega⟩,fun _=>rfl,trivial⟩,gP ⟨oo,trivial⟩]) (fun g=>aE)
 refine key.trans ?_;unfold namesB;cases(List.range xs.length).any fun i=>!nmB (xs.getD i (dflt .str))||dupB (fun i=>xs.getD i (dflt .str)) i <;> rfl
theorem r134(xs:List ByteArray)(hw:wf (.sl .str) xs):u134 xs=some (namesB xs.length fun i=>xs.getD i (dflt .str)):=by
 have h:=hw.1;have key:=lp_all (n:=xs.length) h (fun i=>!nmB (xs.getD i (dflt .str))||dupB (fun i=>xs.getD i (dflt .str)) i) (some false) (e:=some true) (F:=u134L1 xs) (fun g i hi=>by
  have hs:=wf_el (d:=dflt .str) hi hw;have e1:=r151 _ hs;have e3:((i:Int)).toNat=i:=rfl;have inner:=lp_all (n:=i) (by omega) (fun k=>decide (xs.getD k (dflt .str)=xs.getD i (dflt .str))) (some false) (e:=g ((i:Int)+1)) (F:=u134L3 xs (i:Int) g) (fun g3 k hk=>by
   refine(all_el hk (by omega) ⟨oo,oo,trivial⟩).trans ?_;rfl) (fun g3=>by
   refine aE.trans ?_;unfold u134J2;exact gP ⟨oo,trivial⟩)
  refine(if_pos (by simpa using hi)).trans ?_;rw[e3,e1,vS,gP ⟨oo,rfl,trivial⟩,inner];unfold dupB;cases nmB (xs.getD i (dflt .str)) <;> cases(List.range i).any fun k=>decide (xs.getD k (dflt .str)=xs.getD i (dflt .str)) <;> rfl) (fun g=>aE)
 refine key.trans ?_;unfold namesB;cases(List.range xs.length).any fun i=>!nmB (xs.getD i (dflt .str))||dupB (fun i=>xs.getD i (dflt .str)) i <;> rfl
theorem r282(xs:List Int)(h:xs.length<=9223372036854775807)(h1:1<=xs.length):u282 xs=some (minN xs):=by
 unfold u282;rw[if_neg (by simp; omega)];unfold u282J0;rw[gP ⟨oo,trivial⟩];have key:=lF (n:=xs.length-1) (by omega) (fun i (m:Int)=>(m,((i+1:Nat):Int))) (fun i m=>min m (xs.getD (i+1) 0)) (fun _ _=>True) (J:=fun m=>some m) (F:=u282L2 xs) (fun g i s hi _=>by
  refine(if_pos (by simp; omega)).trans ?_;rw[gP ⟨oo,trivial⟩,gP ⟨oo,trivial⟩];rfl) (fun _ _ _ _=>trivial) (fun g s _=>by
  have e:xs.length-1+1=xs.length:=by omega
  show u282L2 xs g (s,((xs.length-1+1:Nat):Int))=some s;rw[e];exact aE) (xs.getD 0 0) trivial
 exact key
theorem r280(t:Y140)(p:Bool)(hw:wf y140 t):u280 t p=some (!isTable t||p&&decide (minN t.2.2<0)):=by
 unfold u280;have hv:p=true/\(!isTable t)=false/\True->(u282 t.2.2).isSome=true:=fun hc=>by
  have h2:isTable t=true:=by simpa using hc.2.1
  rw[r282 _ hw.2.2.1 (table_len h2).2.2.2.2.2.1]; rfl
 rw[r281 t hw,vS,gP ⟨rfl,hv,trivial⟩,lE];refine congrArg some ?_;cases hT:isTable t with
 | false=>rfl
 | true=>rw[r282 _ hw.2.2.1 (table_len hT).2.2.2.2.2.1,vS]
theorem r272(l:List Y140)(p:Bool)(hw:wf (.sl y140) l):u272 l p=some (areTables l p):=by
 have h:=hw.1;have h1:u286c280 l p=_:=idx_some h (fun i=>!isTable (l.getD i (dflt y140))||p&&decide (minN (l.getD i (dflt y140)).2.2<0)) (fun g i hi=>idx_el hi h (r280 _ _ (wf_el hi hw))) (fun g=>aE);have h2:u279c280 l p=_:=has_some h1;rw[any_getD l (dflt y140) (fun t=>!isTable t||p&&decide (minN t.2.2<0))] at h2;unfold u272;rw[h2,vS,gP ⟨fun _=>rfl,trivial⟩];refine congrArg some ?_;unfold areTables;have e:((l.length:Int)==2)=decide (l.length=2):=by
  rw[Bool.eq_iff_iff,beq_iff_eq,dq]; omega
 rw[e,<- all_any];congr 3;funext t;rw[Bool.not_and,Bool.not_not]
theorem fst_fold(xs:List Int):∀n,(fN (fun i (s:Int×Int)=>(min s.1 (xs.getD (i+1) 0),max s.2 (xs.getD (i+1) 0))) n (xs.getD 0 0,xs.getD 0 0)).1=fN (fun i m=>min m (xs.getD (i+1) 0)) n (xs.getD 0 0)
 | 0=>rfl
 | n+1=>by rw[fN,fN,fst_fold xs n]
theorem r265(t:Y140)(hw:wf y140 t):∃l,u265 t=some (if isTable t=true then((minN t.2.2,l),0) else((0,0),1)):=by
 unfold u265;rw[r277 t hw,vS,gP ⟨rfl,trivial⟩];cases hT:isTable t with
 | false=>exact⟨0,rfl⟩
 | true =>
   have h1:=(table_len hT).2.2.2.2.2.1;have h:=hw.2.2.1;have key:=lF (n:=t.2.2.length-1) (by omega) (fun i (s:Int×Int)=>(((i+1:Nat):Int),s.1,s.2)) (fun i s=>(min s.1 (t.2.2.getD (i+1) 0),max s.2 (t.2.2.getD (i+1) 0))) (fun _ _=>True) (J:=fun s=>some ((s.1,s.2),(0:Int))) (F:=u265L1 t) (fun g i s hi _=>by
    refine(if_pos (by simp; omega)).trans ?_;rw[gP ⟨oo,trivial⟩,gP ⟨oo,trivial⟩,gP ⟨oo,trivial⟩];rfl) (fun _ _ _ _=>trivial) (fun g s _=>by
    have e:t.2.2.length-1+1=t.2.2.length:=by omega
    show u265L1 t g (((t.2.2.length-1+1:Nat):Int),s.1,s.2)=_;rw[e];exact aE) (t.2.2.getD 0 0,t.2.2.getD 0 0) trivial
   rw[if_neg (by simp),gP ⟨oo,oo,trivial⟩];rw[fst_fold] at key;exact⟨_,key⟩
theorem r246(l:List Y140)(p:Bool)(hw:wf (.sl y140) l):u246 l p=some (areTables l p):=by
 unfold u246;have e:((l.length:Int) != 2)=!decide (l.length=2):=by
  rw[Bool.eq_iff_iff]; simp; omega
 rw[e];unfold areTables;by_cases h2:l.length=2
 ·have key:=lp_all (n:=2) (by decide) (fun i=>!isTable (l.getD i (dflt y140))||p&&decide (minN (l.getD i (dflt y140)).2.2<0)) (some false) (e:=some true) (F:=u246L1 p l) (fun g i hi=>by
   obtain⟨m,hm⟩:=r265 (l.getD i (dflt y140)) (wf_el (by omega) hw);have e3:((i:Int)).toNat=i:=rfl;refine(if_pos (by simp; omega)).trans ?_;rw[e3,hm,vS,gP ⟨oo,rfl,trivial⟩,lE,gP ⟨oo,trivial⟩];cases isTable (l.getD i (dflt y140)) <;> rfl) (fun g=>by
   unfold u246L1;exact if_neg (by decide))
  rw[decide_eq_true h2,if_neg (by simp)];refine key.trans ?_;have:=any_getD l (dflt y140) (fun t=>!isTable t||p&&decide (minN t.2.2<0));rw[h2] at this;rw[this,<- all_any,Bool.true_and];have e5:(fun t:Y140=>!(isTable t&&!(p&&decide (minN t.2.2<0))))=fun t=>!isTable t||p&&decide (minN t.2.2<0):=by
   funext t; rw[Bool.not_and,Bool.not_not]
  rw[e5];cases l.any fun t=>!isTable t||p&&decide (minN t.2.2<0) <;> rfl
 ·rw[decide_eq_false h2]; rfl
abbrev pinOf(c:Y163)(i:Nat):Y217:=c.2.2.1.getD i (dflt y217)
abbrev arcOf(c:Y163)(i:Nat):Y143:=c.2.2.2.1.getD i (dflt y143)
theorem r262(c:Y163)(hw:wf y163 c):u262 c=some ((c.2.2.1.length:Int)-1):=by
 have h:=hw.2.2.1.1;have e:u258 c.2.2.1=some (c.2.2.1.length:Int):=rfl;unfold u262;rw[e,vS,gP ⟨rfl,oo,trivial⟩,lE]
theorem r274(c:Y163)(hw:wf y163 c)(x:Int):u274 c x=some (inB x 0 ((c.2.2.1.length:Int)-1-1)):=by
 have h:=hw.2.2.1.1;unfold u274;rw[r262 c hw,vS,r150,vS,gP ⟨rfl,oo,rfl,trivial⟩]
theorem r273(c:Y163)(hw:wf y163 c):u273 c=some (clkI c.2.2.1.length (pinOf c)):=by
 have h:=hw.2.2.1.1;have h1:u283c284 c.2.2.1=_:=idx_some h (fun i=>(pinOf c i).2.2.2) (fun g i hi=>idx_el hi h rfl) (fun g=>aE);unfold u273;rw[h1,vS,gP ⟨rfl,trivial⟩,lE];rfl
theorem r263(c:Y163)(hw:wf y163 c)(k:Int):u263 c k=some (hasB c.2.2.2.1.length (arcOf c) k):=by
 have h:=hw.2.2.2.1.1;have h1:u275c276 c.2.2.2.1 k=_:=idx_some h (fun i=>(arcOf c i).1==k) (fun g i hi=>idx_el hi h rfl) (fun g=>aE);have h2:u260c276 c.2.2.2.1 k=_:=has_some h1;unfold u263;rw[h2,vS,gP ⟨rfl,trivial⟩];rfl
theorem r259(c:Y163)(a:Y143)(hc:wf y163 c)(ha:wf y143 a):u259 c a=some (isArcI c.2.2.1.length (pinOf c) a):=by
 obtain⟨_,_,_,_,hd,hs⟩:=ha;have ek:u271 a.1=some (a.1==4||a.1==5):=rfl;have hg:inB a.2.1 0 ((c.2.2.1.length:Int)-1-1)=true->ix a.2.1 c.2.2.1.length:=fun h=>by
  rw[inB_iff] at h; exact oo
 unfold u259;rw[ek,r272 _ _ hd,r272 _ _ hd,r272 _ _ hs,r273 c hc,r274 c hc,r274 c hc,r262 c hc]
 repeat rw[vS]
 rw[gP ⟨rfl,trivial⟩];unfold isArcI;by_cases k45:a.1=4∨a.1=5
 ·have e1:(a.1==4||a.1==5)=true:=by simpa using k45
  rw[if_pos e1,if_pos k45,gP ⟨fun _=>rfl,fun _=>rfl,fun _=>rfl,trivial⟩,lE]
 ·have e1:(a.1==4||a.1==5)=false:=by
   rw[<- Bool.not_eq_true]; simpa using k45
  rw[e1,if_neg (by simp),if_neg k45,gP ⟨rfl,fun _=>rfl,fun _=>rfl,fun _=>rfl,trivial⟩,lE];by_cases hgo:areTables a.2.2.2.2.1 true=true/\areTables a.2.2.2.2.2 true=true/\a.2.2.1=(c.2.2.1.length:Int)-1/\inB a.2.1 0 ((c.2.2.1.length:Int)-1-1)=true
  ·obtain⟨g1,g2,g3,g4⟩:=hgo;have e3:(areTables a.2.2.2.2.1 true&&areTables a.2.2.2.2.2 true&&a.2.2.1==(c.2.2.1.length:Int)-1&&inB a.2.1 0 ((c.2.2.1.length:Int)-1-1))=true:=by
    rw[g1,g2,g4,g3]; simp
   have e2:(!areTables a.2.2.2.2.1 true||!areTables a.2.2.2.2.2 true||a.2.2.1 != (c.2.2.1.length:Int)-1||!inB a.2.1 0 ((c.2.2.1.length:Int)-1-1))=false:=by
    rw[g1,g2,g4,g3]; simp
   rw[e3,Bool.true_and];refine(if_neg (by rw[e2]; simp)).trans ?_;by_cases k1:a.1=1
   ·rw[if_pos (beq_iff_eq.2 k1),if_pos k1,r150,gP ⟨hg g4,fun _=>rfl,trivial⟩];rfl
   ·rw[if_neg (by simpa using k1),if_neg k1];have j:∀b,u259J0 c a b=some (if b=true then(pinOf c a.2.1.toNat).2.2.2&&a.2.2.2.1==0 else false):=fun b=>by
     unfold u259J0;cases b with
     | false=>rfl
     | true=>rw[if_pos rfl,if_pos rfl,gP ⟨hg g4,trivial⟩]
    by_cases k2:a.1=2
    ·rw[if_pos (beq_iff_eq.2 k2),if_pos (.inl k2),j,beq_iff_eq.2 k2]; rfl
    ·rw[if_neg (by simpa using k2),j];by_cases k3:a.1=3
     ·rw[beq_iff_eq.2 k3,if_pos rfl,if_pos (.inr k3)]
     ·rw[beq_eq_false_iff_ne.2 k3,if_neg (by simp),if_neg (by omega)]
  ·have e2:(!areTables a.2.2.2.2.1 true||!areTables a.2.2.2.2.2 true||a.2.2.1 != (c.2.2.1.length:Int)-1||!inB a.2.1 0 ((c.2.2.1.length:Int)-1-1))=true:=by
    rw[<- Bool.not_eq_false];intro h;simp only[Bool.or_eq_false_iff,Bool.not_eq_false',bne_eq_false_iff_eq] at h;exact hgo ⟨h.1.1.1,h.1.1.2,h.1.2,h.2⟩
   have e3:(areTables a.2.2.2.2.1 true&&areTables a.2.2.2.2.2 true&&a.2.2.1==(c.2.2.1.length:Int)-1&&inB a.2.1 0 ((c.2.2.1.length:Int)-1-1))=false:=by
    rw[<- Bool.not_eq_true];intro h;simp only[ba,beq_iff_eq] at h;exact hgo ⟨h.1.1.1,h.1.1.2,h.1.2,h.2⟩
   rw[e3,Bool.false_and];exact if_pos e2
theorem r219(c:Y163)(a:Y143)(hc:wf y163 c)(ha:wf y143 a):u219 c a=some (isArcS c.2.2.1.length (pinOf c) a):=by
 obtain⟨_,_,_,_,hd,hs⟩:=ha;have h:=hc.2.2.1.1;unfold u219;rw[gP ⟨oo,trivial⟩,r97,r97]
 repeat rw[vS]
 rw[gP ⟨oo,rfl,fun _=>rfl,trivial⟩];unfold isArcS;by_cases hgo:inB a.2.1 0 ((c.2.2.1.length:Int)-1-1)=true/\inB a.2.2.1 0 ((c.2.2.1.length:Int)-1)=true
 ·obtain⟨g1,g2⟩:=hgo;have b1:=inB_iff.1 g1;have b2:=inB_iff.1 g2;rw[g1,g2,if_neg (by simp),gP ⟨oo,trivial⟩,lE,Bool.true_and,Bool.true_and];by_cases k1:a.1=1
  ·rw[if_pos (beq_iff_eq.2 k1),if_pos k1,r97,r246 _ _ hd,r246 _ _ hs,gP ⟨fun _=>rfl,fun _=>rfl,fun _=>rfl,trivial⟩];rfl
  ·rw[if_neg (by simpa using k1),if_neg k1];have j1:∀b,u219J1 (pinOf c a.2.1.toNat) a c b=some (if b=true then(pinOf c a.2.1.toNat).2.2.2&&decide (a.2.2.1 < (c.2.2.1.length:Int)-1)&&!(pinOf c a.2.2.1.toNat).2.2.2&&a.2.2.2.1==0&&areTables a.2.2.2.2.1 false&&(a.2.2.2.2.2.length:Int)==0 else false):=fun b=>by
    unfold u219J1;cases b with
    | false=>rfl
    | true =>
      rw[if_pos rfl,if_pos rfl,r246 _ _ hd,gP ⟨fun _=>oo,fun _=>rfl,trivial⟩];rfl
   have j0:∀b,u219J0 (pinOf c a.2.1.toNat) a c b=some (if b=true then(pinOf c a.2.1.toNat).2.2.2&&a.2.2.1==(c.2.2.1.length:Int)-1&&a.2.2.2.1==0&&areTables a.2.2.2.2.1 true&&areTables a.2.2.2.2.2 true else if a.1=4∨a.1=5 then(pinOf c a.2.1.toNat).2.2.2&&decide (a.2.2.1 < (c.2.2.1.length:Int)-1)&&!(pinOf c a.2.2.1.toNat).2.2.2&&a.2.2.2.1==0&&areTables a.2.2.2.2.1 false&&(a.2.2.2.2.2.length:Int)==0 else false):=fun b=>by
    unfold u219J0;cases b with
    | true =>
      rw[if_pos rfl,if_pos rfl,r246 _ _ hd,r246 _ _ hs,gP ⟨fun _=>rfl,fun _=>rfl,trivial⟩];rfl
    | false =>
      show(if(a.1==4)=true then u219J1 (pinOf c a.2.1.toNat) a c (a.1==4) else u219J1 (pinOf c a.2.1.toNat) a c (a.1==5))=some (if a.1=4∨a.1=5 then _ else false);by_cases k4:a.1=4
      ·rw[if_pos (beq_iff_eq.2 k4),j1,beq_iff_eq.2 k4,if_pos rfl,if_pos (.inl k4)]
      ·rw[if_neg (by simpa using k4),j1];by_cases k5:a.1=5
       ·rw[beq_iff_eq.2 k5,if_pos rfl,if_pos (.inr k5)]
       ·rw[beq_eq_false_iff_ne.2 k5,if_neg (by simp),if_neg (by omega)]
   by_cases k2:a.1=2
   ·rw[if_pos (beq_iff_eq.2 k2),if_pos (.inl k2)];refine(j0 _).trans ?_;rw[beq_iff_eq.2 k2]; rfl
   ·rw[if_neg (by simpa using k2)];refine(j0 _).trans ?_;by_cases k3:a.1=3
    ·rw[beq_iff_eq.2 k3,if_pos rfl,if_pos (.inr k3)]
    ·rw[beq_eq_false_iff_ne.2 k3,if_neg (by simp),if_neg (by omega:¬(a.1=2∨a.1=3))]
 ·have e2:(!inB a.2.1 0 ((c.2.2.1.length:Int)-1-1)||!inB a.2.2.1 0 ((c.2.2.1.length:Int)-1))=true:=by
   rw[<- Bool.not_eq_false];intro h;simp only[Bool.or_eq_false_iff,Bool.not_eq_false'] at h;exact hgo h
  have e3:(inB a.2.1 0 ((c.2.2.1.length:Int)-1-1)&&inB a.2.2.1 0 ((c.2.2.1.length:Int)-1))=false:=by
   rw[<- Bool.not_eq_true];intro h;rw[ba] at h;exact hgo h
  rw[e3,Bool.false_and];exact if_pos e2
end Go.Proofs.YtphnknndgfgepaaGreatDoor
end
