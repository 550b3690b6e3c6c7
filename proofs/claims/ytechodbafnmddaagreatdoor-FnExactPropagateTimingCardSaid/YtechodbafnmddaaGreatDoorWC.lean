/- The order of the nodes of a graph: the two loops. -/
import Derived.Test.YtechodbafnmddaaGreatDoorWB
import Derived.Test.YtechodbafnmddaaGreatDoorXK
import Derived.Test.YtechodbafnmddaaGreatDoorXF
import Derived.Test.YtechodbafnmddaaGreatDoorG95
import Derived.Test.YtechodbafnmddaaGreatDoorWA
set_option maxHeartbeats 0
section
namespace Go.Proofs.YtechodbafnmddaaGreatDoor
open Go Go.Proofs Go.Proofs.Sv Go.Proofs.Xv Go.Proofs.Xl Go.Proofs.Xd
section
variable {b:j0}
theorem u0Q{o:List Int}{i N:Nat}{x:Int}(h:o.length=N):(o.set i x).length=N:=by grind
theorem I0D(c:x5 b=true){lv:List Bool}{p:Nat->Bool}:lp (Vg (l6 b,lv) (R3 p (lV b).length)) (0,List.replicate (j1 b) 0)=NK (l6 b,lv) (((List.range (lV b).length).filter p).foldl (GG (r7 b)) (List.replicate (j1 b) 0)):=by
 have x:=AL c;obtain⟨z,l⟩:=WN p (lV b).length;rw[<- WL,<- l];refine lF (n:=(R3 p (lV b).length).length) (by omega) (fun i (s:List Int)=>((i:Int),s)) (fun i o=>GG (r7 b) o (((List.range (lV b).length).filter p).getD i 0)) (fun i o=>o.length=j1 b/\∀v,0<=o.getD v 0/\o.getD v 0<=(i:Int)) (J:=fun s=>NK (l6 b,lv) s) (F:=Vg (l6 b,lv) (R3 p (lV b).length)) (fun g i o hi d=>?_) (fun i o hi d=>?_) (fun g s _=>if_neg (by simp)) _ ⟨List.length_replicate,fun v=>?_⟩
 ·have j:((i:Int)).toNat=i:=rfl;obtain⟨e,h⟩:=d;have a:=OE (p:=p) (M:=(lV b).length) (i:=i) (by omega);refine(if_pos (decide_eq_true (by omega))).trans ?_;refine(gP ⟨oo,by omega,trivial⟩).trans ?_;rw[j,WQ];generalize ((List.range (lV b).length).filter p).getD i 0=k at a;have E:Int.toNat ((k:Nat):Int)=k:=rfl;obtain⟨t,f,w,q⟩:=CR b c a;have m:ix ((k:Nat):Int) (l6 b).2.2.1.length:=⟨by omega,by show((k:Nat):Int) < ((lV b).length:Int); omega⟩;have y:=h (r7 b k);have r:((l6 b).2.2.1.getD (Int.toNat ((k:Nat):Int)) (a6 y138)).2.1=(r7 b k:Int):=f;have u:Int.toNat ((r7 b k:Nat):Int)=r7 b k:=rfl;rw[r,u];refine(gP ⟨m,oo,by omega,oo,oo,by omega,trivial⟩).trans ?_;rw[lE];exact gP ⟨oo,trivial⟩
 ·obtain⟨e,h⟩:=d;have a:=OE (p:=p) (M:=(lV b).length) (i:=i) (by omega);obtain⟨t,f,w,q⟩:=CR b c a;refine⟨u0Q e,fun v=>?_⟩
  grind[GG,Oz,r7,List.range,lV]
 grind
theorem I0C(f:x5 b=true){lv:List Bool}{p:Nat->Bool}{n:Int}{l:List Int}{v:Int}{a:List Int×Int×List Int->Option (List Int×Bool)}{o:List Int}{A:Int}(T:0<=A)(z:A<=1000000000000)(c:o.length=j1 b)(q:∀w,w<j1 b -> -A<=o.getD w 0/\o.getD w 0<=A):lp (QR (l6 b,lv) (R3 p (lV b).length) n l v a) (0,o)=QQ n a (l++[v],((List.range (lV b).length).filter p).foldl (IC (r7 b)) o):=by
 have Q:=AL f;obtain⟨E,j⟩:=WN p (lV b).length;rw[<- WL,<- j];refine lF (n:=(R3 p (lV b).length).length) (by omega) (fun i (s:List Int)=>((i:Int),s)) (fun i o=>IC (r7 b) o (((List.range (lV b).length).filter p).getD i 0)) (fun i o=>o.length=j1 b/\∀w,w<j1 b -> -A-(i:Int)<=o.getD w 0/\o.getD w 0<=A) (J:=fun s=>QQ n a (l++[v],s)) (F:=QR (l6 b,lv) (R3 p (lV b).length) n l v a) (fun g i o hi d=>?_) (fun i o hi d=>?_) (fun g s _=>if_neg (by simp)) _ ⟨c,fun w P=>by grind⟩
 ·have u:((i:Int)).toNat=i:=rfl;obtain⟨c,h⟩:=d;have e:=OE (p:=p) (M:=(lV b).length) (i:=i) (by omega);refine(if_pos (decide_eq_true (by omega))).trans ?_;refine(gP ⟨oo,by omega,trivial⟩).trans ?_;rw[u,WQ];generalize ((List.range (lV b).length).filter p).getD i 0=k at e;obtain⟨G,r,H,x⟩:=CR b f e;have m:ix ((k:Nat):Int) (l6 b).2.2.1.length:=⟨by omega,by show((k:Nat):Int) < ((lV b).length:Int); omega⟩;have V:=h (r7 b k) x;have t:((l6 b).2.2.1.getD (Int.toNat ((k:Nat):Int)) (a6 y138)).2.1=(r7 b k:Int):=r;have y:Int.toNat ((r7 b k:Nat):Int)=r7 b k:=rfl;rw[t,y];refine(gP ⟨m,oo,by omega,oo,oo,by omega,trivial⟩).trans ?_;rw[lE];exact gP ⟨oo,trivial⟩
 ·obtain⟨c,h⟩:=d;have e:=OE (p:=p) (M:=(lV b).length) (i:=i) (by omega)
  grind[IC]
def X0(b:j0)(lv:List Bool)(out:List Nat)(k:Nat):Option (List Nat):=ID (lV b).length (j1 b) (p6 b) (r7 b) (fun i=>lv.getD i false) k out
theorem WR(M N:Nat)(fr b:Nat->Nat)(lv:Nat->Bool)(k:Nat)(a:List Nat):ID M N fr b lv (k+1) a=match W7 M N fr b lv a with | none=>none | some v=>ID M N fr b lv k (a++[v]):=rfl
theorem P0D(d:x5 b=true){lv:List Bool}(f:lv.length=(lV b).length):HX (l6 b,lv)=some (As (X0 b lv [] (j1 b))):=by
 have y:=AL d;have H:=KD b d;have m:∀i,i < (lV b).length->r7 b i<j1 b:=fun i hi=>(CR b d hi).2.2.2;unfold HX;rw[WJ b d,vS,gP ⟨rfl,⟨by omega,rfl,by omega,by omega⟩,trivial⟩,lE,L0p d f,vS,gP ⟨rfl,trivial⟩,lE,Int.toNat_natCast,I0D d];have q:((List.range (lV b).length).filter fun i=>lv.getD i false).foldl (GG (r7 b)) (List.replicate (j1 b) 0)=DE (lV b).length (j1 b) (p6 b) (r7 b) (fun i=>lv.getD i false) []:=rfl;rw[q];have k:(DE (lV b).length (j1 b) (p6 b) (r7 b) (fun i=>lv.getD i false) []).length=j1 b:=(C0j (fr:=p6 b) m).len;generalize hv6:DE (lV b).length (j1 b) (p6 b) (r7 b) (fun i=>lv.getD i false) []=v6 at k;rw[NK];have s:=OF (n:=j1 b) (by omega) (fun i (a:List Nat)=>(a.map (fun v:Nat=>(v:Int)),(i:Int),DE (lV b).length (j1 b) (p6 b) (r7 b) (fun i=>lv.getD i false) a))
  (fun _ a=>(W7 (lV b).length (j1 b) (p6 b) (r7 b) (fun i=>lv.getD i false) a).map fun v=>a++[v]) (fun _ _=>some ([],false))
  (fun i a=>a.length=i/\OA (lV b).length (j1 b) (p6 b) (r7 b) (fun i=>lv.getD i false) a (DE (lV b).length (j1 b) (p6 b) (r7 b) (fun i=>lv.getD i false) a))
  (J:=fun a=>some (a.map (fun v:Nat=>(v:Int)),true)) (F:=B0F (l6 b,lv) v6)
  (fun g i a hi h=>by
    obtain⟨t,c⟩:=h;have G:((i:Int)).toNat=i:=rfl;refine(if_pos (decide_eq_true (by omega))).trans ?_;rw[P0t _ (by rw[c.len]; omega),v0k c,vS];refine(gP ⟨rfl,trivial⟩).trans ?_;rw[lE];cases hn:W7 (lV b).length (j1 b) (p6 b) (r7 b) (fun i=>lv.getD i false) a with
    | none=>rfl
    | some v =>
      obtain⟨u,z⟩:=RM hn;have ev:((v:Int)).toNat=v:=rfl;dsimp only;refine(if_neg (by simp)).trans ?_;refine(gP ⟨⟨by omega,by rw[c.len]; omega⟩,by rw[c.len]; omega,trivial⟩).trans ?_;refine(gP ⟨⟨by simp only[List.length_singleton,List.length_map]; omega,by simp only[List.length_singleton,List.length_map]; omega⟩,trivial⟩).trans ?_;show gd ((HW (l6 b,lv) (v:Int)).isSome=true/\True) (lt (vl (HW (l6 b,lv) (v:Int))) fun j=>lp (QR (l6 b,lv) j (i:Int) (a.map fun v:Nat=>(v:Int)) (v:Int) g) (0,(DE (lV b).length (j1 b) (p6 b) (r7 b) (fun i=>lv.getD i false) a).set v (-1)))=g ((a++[v]).map (fun v:Nat=>(v:Int)),(((i+1:Nat)):Int),DE (lV b).length (j1 b) (p6 b) (r7 b) (fun i=>lv.getD i false) (a++[v]));rw[P0s d f,vS,gP ⟨rfl,trivial⟩,lE];have r:(a.length:Int)*((lV b).length:Int)<=1000000*6000:=Int.mul_le_mul (by omega) (by omega) (by omega) (by decide);rw[I0C d (A:=6000000001) (by decide) (by decide) (u0Q c.len) (fun w l=>by
       rw[Oz _ (by rw[c.len]; exact u)];have E:=c.lo w l;have x:=c.hi w l;split <;> omega)]
      rw[n0o,List.map_append];exact gP ⟨oo,trivial⟩)
  (fun i a o hi h P=>by
    obtain⟨t,c⟩:=h;cases hn:W7 (lV b).length (j1 b) (p6 b) (r7 b) (fun i=>lv.getD i false) a with
    | none=>grind
    | some v =>
      grind[RM,n0o,v0j])
  (fun g a h=>by
    refine(if_neg ?_).trans rfl
    grind)
  (fun i a=>some (As (X0 b lv a (j1 b-i)))) (fun a _=>by
    rw[Nat.sub_self]; rfl)
  (fun i a hi h=>by
    have e:j1 b-i=(j1 b-(i+1))+1:=by omega
    show some (As (ID _ _ _ _ _ (j1 b-i) a))=_;rw[e,WR];cases W7 (lV b).length (j1 b) (p6 b) (r7 b) (fun i=>lv.getD i false) a <;> rfl)
  0 (Nat.zero_le _) [] ⟨rfl,C0j m⟩
 grind
end
section
variable {b:j0}
theorem P0r(l:x5 b=true){lv:List Bool}(y:lv.length=(lV b).length):LX (j1 b:Int) (lV b) lv=some (As (X0 b lv [] (j1 b))):=by
 have hM:=AL l;have hN:=KD b l;have s:∀i,i < (lV b).length->r7 b i<j1 b:=fun i hi=>(CR b l hi).2.2.2;have j:((j1 b:Int)).toNat=j1 b:=rfl;unfold LX;rw[j];refine(gP ⟨⟨by omega,rfl,by omega,by omega⟩,trivial⟩).trans ?_;exact OF (n:=j1 b) (by omega) (fun _ (a:List Nat)=>(W8 (j1 b) a,a.map (fun v:Nat=>(v:Int))))
  (fun _ a=>(W7 (lV b).length (j1 b) (p6 b) (r7 b) (fun i=>lv.getD i false) a).map fun v=>a++[v]) (fun _ _=>some ([],false))
  (fun i a=>a.length=i/\∀v∈a,v<j1 b)
  (J:=fun a=>some (a.map (fun v:Nat=>(v:Int)),true)) (F:=ZO (lV b) lv (j1 b:Int))
  (fun g i a hi f=>by
    obtain⟨P,q⟩:=f;have o:=fun w=>n0B q w;refine(if_pos (decide_eq_true (by grind))).trans ?_;rw[j];refine(gP ⟨⟨by omega,rfl,by omega,by omega⟩,trivial⟩).trans ?_;refine(lF (n:=(lV b).length) (by omega) (fun k (w:List Bool)=>((k:Int),w)) (GH (p6 b) (r7 b) (fun i=>lv.getD i false) a) (fun _ w=>w.length=j1 b) (J:=fun w=>LW (W8 (j1 b) a) (a.map fun v:Nat=>(v:Int)) (j1 b:Int) g w) (F:=ZN (lV b) lv (W8 (j1 b) a) (a.map fun v:Nat=>(v:Int)) (j1 b:Int) g) (fun z k w W H=>?_) (fun k w _ H=>?_) (fun z w _=>if_neg (by simp)) (List.replicate (j1 b) false) List.length_replicate).trans ?_
    ·have m:((k:Int)).toNat=k:=rfl;obtain⟨x,T,Y,f4⟩:=CR b l W;have E:Int.toNat ((p6 b k:Nat):Int)=p6 b k:=rfl;have V:Int.toNat ((r7 b k:Nat):Int)=r7 b k:=rfl;have X:=(o (p6 b k)).1;refine(if_pos (decide_eq_true (by omega))).trans ?_;rw[m,x,T,E,V,(o (p6 b k)).2];refine(gP ⟨oo,(fun _=>oo),(fun _=>oo),(fun _=>by omega),trivial⟩).trans ?_;unfold GH;by_cases c:(lv.getD k false&&!a.contains (p6 b k))=true
     ·rw[if_pos c,if_pos c];refine(gP ⟨oo,oo,by omega,trivial⟩).trans ?_;exact gP ⟨oo,trivial⟩
     ·rw[if_neg c,if_neg c];exact gP ⟨oo,trivial⟩
    ·grind[GH,List.length_set]
    ·show LW _ _ _ g _=_;rw[LW,<- t0D (lv:=fun i=>lv.getD i false) (fr:=p6 b) s q];have G:=(p0P (fr:=p6 b) (lv:=fun i=>lv.getD i false) s a 0 _ (Nat.le_refl _)).1;generalize fN (GH (p6 b) (r7 b) (fun i=>lv.getD i false) a) (lV b).length (List.replicate (j1 b) false)=w at G;have X:=(o 0).1;have d:=KE (n:=j1 b) (by omega) (fun v=>!((W8 (j1 b) a).getD v false||w.getD v false)) (fun v=>Jy (W8 (j1 b) a) (a.map fun v:Nat=>(v:Int)) (j1 b:Int) g (v:Int)) (e:=some ([],false)) (F:=ZM (W8 (j1 b) a) (a.map fun v:Nat=>(v:Int)) (j1 b:Int) w g) 0 (Nat.zero_le _) (fun Q v _ r=>by
      have m:((v:Int)).toNat=v:=rfl;have t:decide ((v:Int) < (j1 b:Int))=true:=decide_eq_true (by omega);refine(gP ⟨(fun _=>oo),(fun _=>by omega),(fun _=>oo),(fun _=>by omega),trivial⟩).trans ?_;rw[m,t,Bool.true_and];by_cases c:((W8 (j1 b) a).getD v false||w.getD v false)=true
      ·rw[if_pos c,if_neg (by grind)];exact gP ⟨oo,trivial⟩
      simp_all) (fun Q=>by
      have t:decide ((j1 b:Int) < (j1 b:Int))=false:=decide_eq_false (by omega);refine(gP ⟨(fun h=>by grind),(fun h=>by grind),(fun h=>by grind),(fun h=>by grind),trivial⟩).trans ?_
      grind[trans,Jy])
     rw[Nat.sub_zero,<- List.range_eq_range'] at d;refine Eq.trans d ?_;cases hn:(List.range (j1 b)).find? fun v=>!((W8 (j1 b) a).getD v false||w.getD v false) with
     | none=>rfl
     | some v =>
       have r:=List.mem_range.1 (List.mem_of_find?_eq_some hn);have m:((v:Int)).toNat=v:=rfl;show Jy (W8 (j1 b) a) (a.map fun v:Nat=>(v:Int)) (j1 b:Int) g (v:Int)=g (W8 (j1 b) (a++[v]),(a++[v]).map fun v:Nat=>(v:Int));rw[Jy,v0P,List.map_append];refine(if_neg (by grind)).trans ?_;refine(gP ⟨oo,by omega,trivial⟩).trans ?_;exact gP ⟨⟨by grind,by grind⟩,trivial⟩)
  (fun i a u hi f he=>by
    obtain⟨P,q⟩:=f;cases hn:W7 (lV b).length (j1 b) (p6 b) (r7 b) (fun i=>lv.getD i false) a with
    | none=>grind
    | some v =>
      grind[RM,List.mem_singleton])
  (fun g a f=>by
    refine(if_neg ?_).trans rfl
    grind)
  (fun i a=>some (As (X0 b lv a (j1 b-i)))) (fun a _=>by
    rw[Nat.sub_self]; rfl)
  (fun i a hi f=>by
    have e:j1 b-i=(j1 b-(i+1))+1:=by omega
    show some (As (ID _ _ _ _ _ (j1 b-i) a))=_;rw[e,WR];cases W7 (lV b).length (j1 b) (p6 b) (r7 b) (fun i=>lv.getD i false) a <;> rfl)
  0 (Nat.zero_le _) [] ⟨rfl,fun v r=>nomatch r⟩
theorem RO(M:Nat)(br:List Int):(H0 M br).length=M:=Ij _ _
end
def Fy(b:j0)(br:List Int):Int:=if x5 b=true then(if BU (lV b).length br=true then 0 else 2) else 1
theorem M0P(b:j0)(a:wf j3 b)(d:h9 j3 b<=1048576)(br:List Int)(c:br.length<=1048576):FW b br=some (Fy b br):=by
 unfold FW Fy;rw[r83 b a d,vS,gP ⟨rfl,trivial⟩];cases hb:x5 b with
 | false=>rfl
 | true =>
   have e:=AL hb;refine(if_neg (by simp)).trans ?_;rw[Wt b a hb,vS,M0L _ br (by omega) c,gP ⟨rfl,rfl,trivial⟩,lE,M0L _ br (by omega) c,vS]
   grind
theorem z0q{b:j0}{br:List Int}(h:Fy b br=0):x5 b=true/\BU (lV b).length br=true:=by
 unfold Fy at h;split at h
 ·rename_i a;split at h
  ·rename_i c; exact⟨a,c⟩
  ·cases h
 ·cases h
def WS(b:j0)(br:List Int):List Int×Int:=if Fy b br=0 then(if(As (X0 b (H0 (lV b).length br) [] (j1 b))).2=true then((As (X0 b (H0 (lV b).length br) [] (j1 b))).1,0) else([],7)) else([],Fy b br)
theorem P0z(b:j0)(c:wf j3 b)(e:h9 j3 b<=1048576)(br:List Int)(d:br.length<=1048576):Mq b br=some (WS b br):=by
 unfold Mq WS;rw[M0P b c e br d,vS,gP ⟨rfl,trivial⟩,lE];by_cases h:Fy b br=0
 ·obtain⟨a,f⟩:=z0q h;have g:=AL a;rw[h];refine(if_neg (by decide)).trans ?_;rw[Wt b c a,vS,gP ⟨rfl,trivial⟩,lE,r60 b c a,vS,r44 _ _ (by omega) d,vS,P0r a (RO _ _),vS];refine(gP ⟨rfl,rfl,rfl,trivial⟩).trans ?_;rw[lE,if_pos rfl];cases h2:(As (X0 b (H0 (lV b).length br) [] (j1 b))).2
  ·refine(if_pos (by simp[h2])).trans ?_;rfl
  ·refine(if_neg (by simp[h2])).trans ?_;rfl
 ·rw[if_neg h];exact if_pos (by simp[h])
section
variable {b:j0}
end
theorem r63{b:j0}(c:x5 b=true)(a:Int):Ab (l6 b) a=some (j6 a 0 ((j1 b:Int)-1)):=by
 have d:=KD b c;unfold Ab;rw[WJ b c,vS];refine(gP ⟨rfl,oo,rfl,trivial⟩).trans ?_;rw[Al,vS]
section
variable {b:j0}
theorem y0n(c:x5 b=true){lv:List Bool}(k:lv.length=(lV b).length)(a:Nat):Qb (l6 b,lv) (a:Int)=some (R3 (fun i=>lv.getD i false&&r7 b i==a) (lV b).length):=by
 have l:=AL c;refine(lF (n:=(lV b).length) (by omega) (fun i (s:List Int)=>(s,(i:Int))) (fun i s=>if(lv.getD i false&&r7 b i==a)=true then s++[(i:Int)] else s) (fun i s=>s.length<=i) (J:=fun s=>some s) (F:=k0C (l6 b,lv) (a:Int)) (fun g i s hi e=>?_) (fun i s _ e=>?_) (fun g s _=>if_neg (by simp[l6])) [] (Nat.le_refl _)).trans (congrArg some (RN _ _))
 ·have m:((i:Int)).toNat=i:=rfl;have d:ix (i:Int) (l6 b).2.2.1.length:=⟨by omega,by show(i:Int) < ((lV b).length:Int); omega⟩;refine(if_pos (decide_eq_true d.2)).trans ((gP ⟨d,trivial⟩).trans ?_);rw[lE];refine(gP ⟨⟨by omega,by show(i:Int) < (lv.length:Int); omega⟩,(fun _=>rfl),trivial⟩).trans ?_;obtain⟨_,j,_⟩:=CR b c hi;have f:(((lV b).getD i (a6 y138)).2.1==(a:Int))=(r7 b i==a):=by
   rw[j,Bool.eq_iff_iff,beq_iff_eq,beq_iff_eq]; omega
  show(if(lv.getD i false&&(((lV b).getD i (a6 y138)).2.1==(a:Int)))=true then _ else _)=_;rw[f];by_cases h:(lv.getD i false&&r7 b i==a)=true
  ·rw[if_pos h,if_pos h];refine(gP ⟨⟨by simp only[List.length_singleton]; omega,by simp only[List.length_singleton]; omega⟩,trivial⟩).trans ?_;exact gP ⟨oo,trivial⟩
  ·rw[if_neg h,if_neg h];exact gP ⟨oo,trivial⟩
 ·show(if(lv.getD i false&&r7 b i==a)=true then s++[(i:Int)] else s).length<=i+1;split
  ·rw[List.length_append,List.length_singleton]; omega
  ·omega
theorem P0B(d:x5 b=true){lv:List Bool}(c:lv.length=(lV b).length)(a:Nat):HF (l6 b,lv) (a:Int)=some (R3 (fun i=>lv.getD i false&&r7 b i==a) (lV b).length):=by
 unfold HF;rw[y0n d c,vS,gP ⟨rfl,trivial⟩,lE]
end
theorem RP:∀(N:Nat) (l:List Nat),l.Nodup->(∀v∈l,v<N)->l.length<=N
 | 0,l,_,h=>by
   cases l with
   | nil=>exact Nat.le_refl _
   | cons a r=>exact(Nat.not_lt_zero _ (h a (by simp))).elim
 | N+1,l,hd,h=>by
   by_cases c:N∈l
   ·have f:=RP N (l.erase N) (hd.erase N) (fun v b=>by
     have d:=(hd.mem_erase_iff).1 b;have:=h v d.2;have:=d.1;omega)
    have:=List.length_erase_of_mem c;have:0<l.length:=List.length_pos_of_mem c;omega
   ·have:=RP N l hd (fun v b=>by
     have f:=h v b;have:v≠N:=fun e=>c (e ▸ b);omega)
    omega
theorem y0y{l:List Nat}(h:l.Nodup){p q:Nat}(b:p<q)(a:q<l.length):l.getD p 0≠l.getD q 0:=by
 have:=List.pairwise_iff_getElem.1 h p q (by omega) a b;rw[gq,List.getElem?_eq_getElem (by omega),gq,List.getElem?_eq_getElem a];exact this
theorem E0b{l:List Nat}{v:Nat}(h:v∈l):∃p,p<l.length/\l.getD p 0=v:=by
 obtain⟨p,a,e⟩:=List.getElem_of_mem h;exact⟨p,a,by rw[gq,List.getElem?_eq_getElem a]; exact e⟩
structure OGood(M N:Nat)(fr to:Nat->Nat)(lv:Nat->Bool)(out:List Nat):Prop where
 nd:out.Nodup
 lt:∀v∈out,v<N
 bef:∀i,i<M->lv i=true->∀q,q<out.length->out.getD q 0=to i->∃p,p<q/\out.getD p 0=fr i
theorem WT{l:List Nat}{v q:Nat}(h:q<l.length):(l++[v]).getD q 0=l.getD q 0:=by
 rw[gq,gq,List.getElem?_append_left h]
theorem w0c{l:List Nat}{v:Nat}:(l++[v]).getD l.length 0=v:=by
 rw[gq,List.getElem?_append_right (Nat.le_refl _),Nat.sub_self];rfl
theorem OGood.snoc{M N:Nat}{fr k:Nat->Nat}{lv:Nat->Bool}{d:List Nat}(h:OGood M N fr k lv d){v:Nat}(r:v<N)(u:v ∉ d)(l:CP M fr k lv d v=0):OGood M N fr k lv (d++[v]):=by
 refine⟨?_,fun w f=>?_,fun i hi m q x e=>?_⟩
 ·rw[List.nodup_append];exact⟨h.nd,by simp,fun a s b n=>fun e=>u (by rw[<- List.mem_singleton.1 n,<- e]; exact s)⟩
 ·rcases List.mem_append.1 f with f | f
  ·exact h.lt w f
  ·rw[List.mem_singleton.1 f]; exact r
 ·rw[List.length_append,List.length_singleton] at x;by_cases c:q<d.length
  ·rw[WT c] at e;obtain⟨p,g,j⟩:=h.bef i hi m q c e;exact⟨p,g,by rw[WT (by omega)]; exact j⟩
  ·have c:q=d.length:=by omega
   subst c;rw[w0c] at e;unfold CP at l;rw[List.countP_eq_zero] at l;have o:=l i (List.mem_range.2 hi);have t:fr i∈d:=by simpa [m,e] using o
   obtain⟨p,g,j⟩:=E0b t;exact⟨p,g,by rw[WT g]; exact j⟩
theorem y0t{M N:Nat}{fr a:Nat->Nat}{lv:Nat->Bool}:∀(k:Nat) (out l:List Nat),OGood M N fr a lv out->ID M N fr a lv k out=some l->OGood M N fr a lv l/\l.length=out.length+k:=by
 intro k
 induction k with
 | zero=>intro out l h e; cases e; exact⟨h,rfl⟩
 | succ k g =>
   intro out l h e;rw[WR] at e;cases hn:W7 M N fr a lv out with
   | none=>rw[hn] at e; cases e
   | some v =>
     rw[hn] at e;obtain⟨i,c⟩:=RM hn;have d:CP M fr a lv out v=0:=by
      unfold W7 at hn;have:=List.find?_some hn;simp only[ba,beq_iff_eq] at this;exact this.2
     obtain⟨b,f⟩:=g (out++[v]) l (h.snoc i c d) e;exact⟨b,by rw[f,List.length_append,List.length_singleton]; omega⟩
theorem r0H(l:List Nat)(i:Nat):(l.map (fun v:Nat=>(v:Int))).getD i 0=(l.getD i 0:Int):=by
 rw[gq,gq,List.getElem?_map];cases l[i]? <;> rfl
section
variable {b:j0}
def H6(b:j0)(c:p8)(k:Nat)(sp:Sp):Sp×Sp:=vl (Cv (l6 b) c (k:Int) sp)
theorem WU{k:Nat}(a:k < (lV b).length):j6 (k:Int) 0 (((lV b).length:Int)-1)=true:=B3.2 oo
theorem WV(j:wf j3 b)(g:h9 j3 b<=1048576)(f:x5 b=true){c:p8}(a:wf q4 c)(i:J2 c=true){k:Nat}(d:k < (lV b).length):∃dv lv,SpanV b c (k:Int) dv lv/\∀sp,D7 sp=true->H6 b c k sp=GM dv lv sp/\Cv (l6 b) c (k:Int) sp=some (H6 b c k sp):=by
 obtain⟨dv,lv,h⟩:=I0o j g f a i (WU d);refine⟨dv,lv,h,fun sp e=>?_⟩;have:=h.spans (WU d) e;unfold H6;rw[this];exact⟨rfl,rfl⟩
theorem WW(l:wf j3 b)(i:h9 j3 b<=1048576)(f:x5 b=true){c:p8}(a:wf q4 c)(j:J2 c=true){k:Nat}(g:k < (lV b).length){sp:Sp}(d:D7 sp=true):0<=(H6 b c k sp).1.1/\(H6 b c k sp).1.1<=(H6 b c k sp).1.2/\(H6 b c k sp).1.2<=5000000/\D7 (H6 b c k sp).2=true:=by
 obtain⟨n,m,h,e⟩:=WV l i f a j g;rw[(e sp d).1];exact h.ok d
theorem u0O{s t:Sp}(a:D7 s=true)(b:D7 t=true):D7 (Y9 s t)=true:=by
 grind[D7,H5,Y9]
def CS(x:u5):Bool:=H5 x.1
abbrev M6(b:j0)(br:List Int):Nat->Bool:=fun i=>(H0 (lV b).length br).getD i false
def X1(b:j0)(c:p8)(br:List Int)(ss:List S6)(T:Nat->Option u5)(v:Nat):Option u5:=GJ (lV b).length (p6 b) (r7 b) (M6 b br) (H6 b c) (O6 ss) T v
def IF(b:j0)(c:p8)(br:List Int)(ss:List S6)(out:List Nat):Option (Nat->Option u5):=GL (lV b).length (p6 b) (r7 b) (M6 b br) (H6 b c) (O6 ss) CS out fun _=>none
structure OrdOk(b:j0)(br:List Int)(out:List Nat):Prop where
 nd:out.Nodup
 ahead:OB (lV b).length (p6 b) (r7 b) (M6 b br) [] out
 all:∀v,v<j1 b->v∈out
 lt:∀v∈out,v<j1 b
theorem z0y{M:Nat}{fr c:Nat->Nat}{lv:Nat->Bool}{N:Nat}{a:List Nat}(h:OGood M N fr c lv a):OB M fr c lv [] a:=by
 have f:∀(r d:List Nat),a=d++r->OB M fr c lv d r:=by
  intro r
  induction r with
  | nil=>intro d _; trivial
  | cons v r n =>
    intro d e;refine⟨fun k j m l=>?_,n (d++[v]) (by rw[e,List.append_assoc]; rfl)⟩;have o:a.getD d.length 0=v:=by rw[e,gq,List.getElem?_append_right (Nat.le_refl _),Nat.sub_self]; rfl
    have g:d.length<a.length:=by rw[e,List.length_append,List.length_cons]; omega
    obtain⟨p,b,i⟩:=h.bef k j m d.length g (by rw[o,l]);rw[<- i,e,gq,List.getElem?_append_left b,List.getElem?_eq_getElem b];exact List.getElem_mem b
 exact f a [] rfl
theorem I0G(_:x5 b=true){br:List Int}{a:List Nat}(h:X0 b (H0 (lV b).length br) [] (j1 b)=some a):OrdOk b br a:=by
 have g:OGood (lV b).length (j1 b) (p6 b) (r7 b) (M6 b br) []:=⟨List.nodup_nil,fun _ h=>(by cases h),fun i _ _ q k=>(Nat.not_lt_zero _ k).elim⟩;obtain⟨c,j⟩:=y0t (j1 b) [] a g h;rw[List.length_nil,Nat.zero_add] at j;refine⟨c.nd,z0y c,fun v l=>?_,c.lt⟩;by_cases f:v∈a
 ·exact f
 ·have:=RP (j1 b) (v :: a) (List.nodup_cons.2 ⟨f,c.nd⟩) (fun w d=>by
   rcases List.mem_cons.1 d with e | d
   ·omega
   ·exact c.lt w d)
  rw[List.length_cons] at this;omega
theorem x0Q{ss:List S6}(h:∀s∈ss,H5 s.2.1=true/\D7 s.2.2=true)(v:Nat)(x:u5)(a:O6 ss v=some x):H5 x.1=true/\D7 x.2=true:=by
 grind[q0t]
end
theorem s0G{a:Type}(p:Nat->Bool)(g:Nat->a->a)(M:Nat)(s:a):fN (fun i s=>g (((List.range M).filter p).getD i 0) s) ((List.range M).filter p).length s=fN (fun k s=>if p k=true then g k s else s) M s:=by
 rw[WL (fun s k=>g k s)]
 induction M with
 | zero=>rfl
 | succ M b =>
   rw[List.range_succ,List.filter_append,List.foldl_append,b];show _=if p M=true then g M (fN (fun k s=>if p k=true then g k s else s) M s) else fN (fun k s=>if p k=true then g k s else s) M s
   by_cases c:p M=true
   ·rw[if_pos c,List.filter_cons_of_pos c]; rfl
   ·rw[if_neg c,List.filter_cons_of_neg c]; rfl
theorem l0c(a b:Sp):Y9 a b=Y9 b a:=by
 unfold Y9;rw[Int.min_comm,Int.max_comm]
section
variable {M:Nat} {fr to:Nat->Nat} {lv:Nat->Bool} {sp:Nat->Sp->Sp×Sp} {src:Nat->Option u5}
theorem y0r(P Q:u5->Prop)(f:∀v x,src v=some x->Q x)(g:∀x y,Q x->Q y->Q (Y9 x.1 y.1,Y9 x.2 y.2))(h:∀k x,k<M->lv k=true->P x->Q (Z0 x.1 (sp k x.2).1,(sp k x.2).2)){T:Nat->Option u5}(i:∀v x,T v=some x->P x)(v:Nat):∀m,m<=M->∀x,fN (DG fr to lv sp T v) m (src v)=some x->Q x:=by
 intro m l;refine n0R (fun o:Option u5=>∀x,o=some x->Q x) m _ (f v) fun k o j b=>?_;unfold DG;split
 ·rename_i c;simp only[ba,beq_iff_eq] at c;cases e:T (fr k) with
  | none=>exact b
  | some y =>
    intro x a;have d:=h k y (by omega) c.1 (i _ _ e);cases o with
    | none =>
      have a:some (Z0 y.1 (sp k y.2).1,(sp k y.2).2)=some x:=a;cases a;exact d
    | some z =>
      have a:some (Y9 z.1 (Z0 y.1 (sp k y.2).1),Y9 z.2 (sp k y.2).2)=some x:=a;cases a;exact g _ _ (b z rfl) d
 ·exact b
end
section
variable {b:j0}
def F0J(x:u5):Prop:=(-1000000000<=x.1.1/\x.1.1<=x.1.2/\x.1.2<=1005000000)/\D7 x.2=true
theorem RQ{s:Sp}:H5 s=true ↔ -1000000000<=s.1/\s.1<=s.2/\s.2<=1000000000:=by
 unfold H5;simp only[ba,dq,B3];omega
theorem y0A(q:wf j3 b)(l:h9 j3 b<=1048576)(i:x5 b=true){c:p8}(e:wf q4 c)(n:J2 c=true){br:List Int}{ss:List S6}(f:∀s∈ss,H5 s.2.1=true/\D7 s.2.2=true){T:Nat->Option u5}(r:∀v x,T v=some x->H5 x.1=true/\D7 x.2=true)(v:Nat):∀m,m<=(lV b).length->∀x,fN (DG (p6 b) (r7 b) (M6 b br) (H6 b c) T v) m (O6 ss v)=some x->F0J x :=
 y0r (fun x=>H5 x.1=true/\D7 x.2=true) F0J (fun v x a=>by
  have h:=x0Q f v x a;have d:=RQ.1 h.1;exact⟨⟨d.1,d.2.1,by omega⟩,h.2⟩) (fun x y a g=>by
  refine⟨?_,u0O a.2 g.2⟩;have:=a.1;have:=g.1;unfold Y9;simp only;omega) (fun k x j _ a=>by
  have o:=WW q l i e n j a.2;refine⟨?_,o.2.2.2⟩;have d:=RQ.1 a.1;unfold Z0;simp only;omega) r v
structure WX(N:Nat)(t:KB):Prop where
 l1:t.1.length=N
 l2:t.2.1.length=N
 l3:t.2.2.length=N
 vals:∀v,v<N->H5 (t.2.1.getD v (0,0))=true/\D7 (t.2.2.getD v (0,0))=true/\(t.1.getD v false=false->t.2.1.getD v (0,0)=(0,0)/\t.2.2.getD v (0,0)=(0,0))
theorem r0v{N:Nat}{T:Nat->Option u5}(h:∀v,v<N->∀x,T v=some x->H5 x.1=true/\D7 x.2=true):WX N (x6 N T):=by
 refine⟨OD.1,OD.2.1,OD.2.2,fun v a=>?_⟩;unfold x6;simp only;rw[KC _ N _ a,KC _ N _ a,KC _ N _ a];cases e:T v with
 | none=>exact⟨rfl,rfl,fun _=>⟨rfl,rfl⟩⟩
 | some x=>exact⟨(h v a x e).1,(h v a x e).2,fun b=>(by cases b)⟩
end
theorem E0u{d:List Nat}{v:Nat}(h:v ∉ d)(r:List Nat):(d++v :: r).idxOf v=d.length:=by
 rw[List.idxOf_append,if_neg h,List.idxOf_cons_self];omega
theorem I0U{d:List Nat}{v:Nat}(h:v∈d)(r:List Nat):(d++r).idxOf v<d.length:=by
 rw[List.idxOf_append,if_pos h];exact List.idxOf_lt_length_of_mem h
theorem o0r{M:Nat}{fr a:Nat->Nat}{lv:Nat->Bool}{k:Nat}(c:k<M)(f:lv k=true):∀(r d:List Nat),(d++r).Nodup->OB M fr a lv d r->a k∈r->fr k∈d++r/\(d++r).idxOf (fr k) < (d++r).idxOf (a k)
 | [],_,_,_,h=>by cases h
 | v :: r,d,hd,ha,h=>by
   by_cases e:a k=v
   ·have b:=ha.1 k c f e;have g:v ∉ d:=fun i=>(List.nodup_append.1 hd).2.2 v i v List.mem_cons_self rfl;rw[e,E0u g];exact⟨List.mem_append_left _ b,I0U b _⟩
   ·have:=o0r c f r (d++[v]) (by rw[List.append_assoc]; exact hd) ha.2 (List.mem_of_ne_of_mem e h)
    rwa [List.append_assoc] at this
theorem OrdOk.pos{b:j0}{br:List Int}{a:List Nat}(h:OrdOk b br a){k:Nat}(e:k < (lV b).length)(d:M6 b br k=true)(c:r7 b k<j1 b):a.idxOf (p6 b k)<a.idxOf (r7 b k)/\p6 b k<j1 b:=by
 have:=o0r e d a [] h.nd h.ahead (h.all _ c);exact⟨this.2,h.lt _ this.1⟩
theorem OrdOk.idx{b:j0}{br:List Int}{a:List Nat}(h:OrdOk b br a){v:Nat}(c:v<j1 b):a.idxOf v<a.length:=List.idxOf_lt_length_of_mem (h.all v c)
theorem OG(s:Int×Int):M8 s=some (H5 s)/\T6 s=some (H5 s):=by
 have e:∀x,Gc x=some (j6 x (-1000000000) 1000000000):=fun _=>rfl;refine⟨?_,?_⟩
 ·unfold M8;rw[e,e,vS,vS];exact gP ⟨rfl,fun _=>rfl,trivial⟩
 ·unfold T6;rw[U8,U8,vS,vS];exact gP ⟨rfl,fun _=>rfl,trivial⟩
def GN(n:Int)(l:List l7)(i:Nat):Bool:=!j6 (l.getD i (a6 y75)).1 0 (n-1)||!H5 (l.getD i (a6 y75)).2.1||!D7 (l.getD i (a6 y75)).2.2||decide (0 < (i:Int))&&decide ((l.getD i (a6 y75)).1<=(l.getD ((i:Int)-1).toNat (a6 y75)).1)
def Z1(b:j0):Int:=2*((p7 b.2.1).length:Int)
def CT(b:j0)(l:List l7):Bool:=!(List.range l.length).any (GN (Z1 b) l)
theorem U0y(b:j0)(c:x5 b=true)(a:Int):Ab (l6 b) a=some (j6 a 0 (Z1 b-1)):=by
 have e:Z1 b=(j1 b:Int):=by
  unfold Z1 j1;omega
 rw[e];exact r63 c a
theorem P0F(b:j0)(d:x5 b=true)(l:List l7)(f:l.length<=9223372036854775807):HU (l6 b) l=some (CT b l):=by
 have a:=K4 (n:=l.length) f (GN (Z1 b) l) (some false) (e:=some true) (F:=B0K (l6 b) l) (fun g i hi=>by
  have c:((i:Int)).toNat=i:=rfl;refine(if_pos (by simpa using hi)).trans ?_;rw[c,gP ⟨oo,trivial⟩,lE,U0y b d,vS,(OG _).1,vS,(M0M _).1,vS,gP ⟨rfl,(fun _=>rfl),(fun _=>rfl),(fun h=>⟨by have:=of_decide_eq_true h.1; omega,by omega⟩),(fun h=>⟨by have:=of_decide_eq_true h.1; omega,by omega⟩),trivial⟩,gP ⟨oo,trivial⟩];rfl) (fun g=>aE)
 unfold HU CT;refine a.trans ?_;cases(List.range l.length).any (GN (Z1 b) l) <;> rfl
theorem P0A(b:j0)(m:wf j3 b)(f:x5 b=true)(l:List l7)(k:l.length<=9223372036854775807):Mr b l=some (CT b l):=by
 have a:=W3 (Y7 f).1;have j:(P5 b.2.1.1.length b.2.1.2.2.length (j9 b.2.1) (B7 b.2.1)).length<=78:=a.len;have e:M0 b=some (Z1 b):=by
  unfold M0;rw[Gz b.2.1 m.2.1 a.fac.ni14 a.fac.np8 a.pin,vS,gP ⟨rfl,oo,trivial⟩,lE];rfl
 have o:0<=Z1 b/\Z1 b<=156:=by
  have:(p7 b.2.1).length<=78:=j;unfold Z1;omega
 have c:=K4 (n:=l.length) k (GN (Z1 b) l) (some false) (e:=some true) (F:=B0s l (Z1 b)) (fun g i hi=>by
  have d:((i:Int)).toNat=i:=rfl;refine(if_pos (by simpa using hi)).trans ?_;rw[d,U8,vS,(OG _).2,vS,(M0M _).2,vS,gP ⟨oo,oo,rfl,(fun h=>⟨by have:=of_decide_eq_true h.1; omega,by omega⟩),(fun h=>⟨by have:=of_decide_eq_true h.1; omega,by omega⟩),(fun _=>oo),(fun _=>oo),(fun _=>rfl),(fun _=>oo),(fun _=>rfl),trivial⟩,gP ⟨oo,trivial⟩];unfold GN;cases j6 (l.getD i (a6 y75)).1 0 (Z1 b-1) <;> cases H5 (l.getD i (a6 y75)).2.1 <;> cases D7 (l.getD i (a6 y75)).2.2 <;> cases decide (0 < (i:Int)) <;> cases decide ((l.getD i (a6 y75)).1<=(l.getD ((i:Int)-1).toNat (a6 y75)).1) <;> rfl) (fun g=>aE)
 unfold Mr;rw[e,vS,gP ⟨rfl,trivial⟩,lE];refine c.trans ?_;unfold CT;cases(List.range l.length).any (GN (Z1 b) l) <;> rfl
def zs(s:Int×Int):Bool:=s.1==0&&(s.2==0&&true)
section
variable {b:j0}
theorem y0z:Z1 b=(j1 b:Int):=by
 unfold Z1 j1;omega
theorem k0K{n:Int}{l:List l7}{i:Nat}:GN n l i=false↔((0<=(l.getD i (a6 y75)).1/\(l.getD i (a6 y75)).1<n)/\H5 (l.getD i (a6 y75)).2.1=true/\D7 (l.getD i (a6 y75)).2.2=true)/\(0<i->(l.getD (i-1) (a6 y75)).1 < (l.getD i (a6 y75)).1):=by
 have e:((i:Int)-1).toNat=i-1:=by omega
 unfold GN;rw[e];simp only[Bool.or_eq_false_iff,Bool.not_eq_false',Bool.and_eq_false_iff,decide_eq_false_iff_not,B3];constructor
 ·rintro⟨⟨⟨a,c⟩,d⟩,f⟩;exact⟨⟨⟨a.1,by omega⟩,c,d⟩,fun b=>by rcases f with f | f <;> omega⟩
 ·rintro⟨⟨a,c,d⟩,f⟩;refine⟨⟨⟨⟨a.1,by omega⟩,c⟩,d⟩,?_⟩;by_cases b:0<i
  ·exact .inr (by have:=f b; omega)
  ·exact .inl (by omega)
theorem x0P{l:List l7}:CT b l=true↔∀i,i<l.length->((0<=(l.getD i (a6 y75)).1/\(l.getD i (a6 y75)).1 < (j1 b:Int))/\H5 (l.getD i (a6 y75)).2.1=true/\D7 (l.getD i (a6 y75)).2.2=true)/\(0<i->(l.getD (i-1) (a6 y75)).1 < (l.getD i (a6 y75)).1):=by
 unfold CT;rw[Dy,y0z];exact⟨fun h i hi=>k0K.1 (h i hi),fun h i hi=>k0K.2 (h i hi)⟩
theorem u0I{l:List l7}(h:CT b l=true):IE l/\∀s∈l,(0<=s.1/\s.1 < (j1 b:Int))/\H5 s.2.1=true/\D7 s.2.2=true:=by
 have d:=x0P.1 h;constructor
 ·refine List.pairwise_iff_getElem.2 fun i j hi f a=>?_;have c:∀k,i<k->k<l.length->(l.getD i (a6 y75)).1 < (l.getD k (a6 y75)).1:=by
   intro k
   induction k with
   | zero=>intro q; omega
   | succ k n =>
     intro o m;have s:=(d (k+1) m).2 (by omega);rw[Nat.add_sub_cancel] at s;by_cases e:i=k
     ·subst e; exact s
     ·exact Int.lt_trans (n (by omega) (by omega)) s
  have:=c j a f
  rwa [gq,List.getElem?_eq_getElem hi,gq,List.getElem?_eq_getElem f] at this
 ·intro s g;obtain⟨i,hi,rfl⟩:=List.mem_iff_getElem.1 g;have:=(d i hi).1
  rwa [gq,List.getElem?_eq_getElem hi] at this
theorem k0V{c:p8}{br:List Int}{ss:List S6}(a:x5 b=true){T U:Nat->Option u5}(h:∀v,v<j1 b->T v=U v)(v:Nat):X1 b c br ss T v=X1 b c br ss U v :=
 p0d fun _ d _ _=>h _ (CR b a d).2.2.1
end
theorem E0z{a:Type}(q:a->Bool)(d:a)(l:List a):l.find? q=((List.range l.length).find? fun i=>q (l.getD i d)).map fun i=>l.getD i d:=by
 cases h:(List.range l.length).find? fun i=>q (l.getD i d) with
 | none =>
   rw[List.find?_eq_none] at h;refine List.find?_eq_none.2 fun x b=>?_;obtain⟨i,hi,rfl⟩:=List.mem_iff_getElem.1 b
   simp_all
 | some i =>
   grind[List.find?_range_eq_some,hi,List.find?_eq_some_iff_getElem,List.getElem?_eq_getElem]
theorem y0m(l:List l7)(v:Nat)(d:l.length<=9223372036854775807):Qe l (v:Int)=some (match(List.range l.length).find? (fun i=>(l.getD i (a6 y75)).1==(v:Int)) with | some i=>(i:Int) | none => -1):=by
 have a:=KE d (fun i=>(l.getD i (a6 y75)).1==(v:Int)) (fun i=>some (i:Int)) (e:=some (-1)) (F:=k0y l (v:Int)) 0 (Nat.zero_le _) (fun g i _ hi=>by
  have c:((i:Int)).toNat=i:=rfl;refine(if_pos (decide_eq_true (by omega))).trans ?_;rw[c];refine(gP ⟨oo,rfl,trivial⟩).trans ?_;show(if((l.getD i (a6 y75)).1==(v:Int))=true then _ else _)=_;by_cases b:((l.getD i (a6 y75)).1==(v:Int))=true
  ·simp_all
  ·rw[if_neg b,if_neg b];exact gP ⟨oo,trivial⟩) (fun g=>if_neg (by simp))
 rw[Nat.sub_zero,<- List.range_eq_range'] at a;refine Eq.trans a ?_
 grind
def M0y(v:Nat)(o:Option u5):l7×Bool:=match o with
 | some x=>(((v:Int),x.1,x.2),true)
 | none=>((0,(0,0),0,0),false)
theorem P0C(l:List l7)(v:Nat)(d:l.length<=9223372036854775807):HH l (v:Int)=some (M0y v (O6 l v)):=by
 unfold HH;rw[y0m l v d,vS,gP ⟨rfl,trivial⟩,lE];unfold O6;rw[E0z _ (a6 y75)];cases h:(List.range l.length).find? fun i=>(l.getD i (a6 y75)).1==(v:Int) with
 | none=>rfl
 | some i =>
   rw[List.find?_range_eq_some] at h;obtain⟨a,b,-⟩:=h;have hi:=List.mem_range.1 b;have c:((i:Int)).toNat=i:=rfl;have a:(l.getD i (a6 y75)).1=(v:Int):=by simpa using a
   show(if decide ((0:Int)<=(i:Int))=true then _ else _)=_;refine(if_pos (decide_eq_true (by omega))).trans ?_;show gd (ix (i:Int) l.length/\True) _=_;rw[c];refine(gP ⟨oo,trivial⟩).trans ?_;rw[lE];show some (l.getD i (a6 y75),true)=some (((v:Int),(l.getD i (a6 y75)).2.1,(l.getD i (a6 y75)).2.2),true)
   grind
def BV(v:Nat)(o:Option u5):Bool×l7:=match o with
 | some x=>(true,(v:Int),x.1,x.2)
 | none=>(false,0,(0,0),0,0)
def N5(v:Nat)(o:Option u5):l7×Bool:=match o with
 | some x=>(((v:Int),x.1,x.2),true)
 | none=>(((v:Int),(0,0),0,0),false)
theorem I0T(v:Nat)(o:Option u5)(x:u5):Gm (N5 v o).1 (N5 v o).2 x.1 x.2=some (N5 v (GI o x)):=by
 cases o with
 | none=>rfl
 | some y =>
   unfold Gm;exact(if_neg (by simp[N5])).trans ((gP ⟨rfl,rfl,trivial⟩).trans rfl)
section
variable {b:j0}
theorem C0y{t:KB}{v:Nat}:CQ t v=if t.1.getD v false=true then some (t.2.1.getD v (0,0),t.2.2.getD v (0,0)) else none:=rfl
theorem M0t(w:wf j3 b)(s:h9 j3 b<=1048576)(a:x5 b=true){c:p8}(f:wf q4 c)(u:J2 c=true){br:List Int}{ss:List l7}(Y:ss.length<=9223372036854775807){t:KB}(j:WX (j1 b) t)(v:Nat) :
  u64 (l6 b,H0 (lV b).length br) c ss t (v:Int)=some (BV v (X1 b c br ss (CQ t) v)):=by
 have hM:=AL a;have m:=RO (lV b).length br;unfold u64;rw[P0C ss v Y,vS,gP ⟨rfl,trivial⟩,lE];have d:∀o,NQ t (l6 b,H0 (lV b).length br) c (v:Int) ((N5 v o).1.1,(N5 v o).1.2.1.1,(N5 v o).1.2.1.2,(N5 v o).1.2.2.1,(N5 v o).1.2.2.2,(N5 v o).2)=some (BV v (fN (DG (p6 b) (r7 b) (M6 b br) (H6 b c) (CQ t) v) (lV b).length o)):=by
  intro o;rw[NQ,P0B a m v,vS,gP ⟨rfl,trivial⟩,lE];obtain⟨q1,z⟩:=WN (fun i=>M6 b br i&&r7 b i==v) (lV b).length;refine(lF (n:=(R3 (fun i=>M6 b br i&&r7 b i==v) (lV b).length).length) (by omega) (fun i (o:Option u5)=>((i:Int),(N5 v o).1.1,(N5 v o).1.2.1.1,(N5 v o).1.2.1.2,(N5 v o).1.2.2.1,(N5 v o).1.2.2.2,(N5 v o).2)) (fun i o=>match CQ t (p6 b (((List.range (lV b).length).filter fun i=>M6 b br i&&r7 b i==v).getD i 0)) with
   | none=>o
   | some x=>GI o (Z0 x.1 (H6 b c (((List.range (lV b).length).filter fun i=>M6 b br i&&r7 b i==v).getD i 0) x.2).1,(H6 b c (((List.range (lV b).length).filter fun i=>M6 b br i&&r7 b i==v).getD i 0) x.2).2)) (fun _ _=>True) (J:=fun o=>some (BV v o)) (F:=G0m t (l6 b,H0 (lV b).length br) c (R3 (fun i=>M6 b br i&&r7 b i==v) (lV b).length)) (fun g i o hi _=>?_) (fun _ _ _ _=>trivial) (fun g o _=>?_) o trivial).trans ?_
  ·have X:((i:Int)).toNat=i:=rfl;have l:=OE (p:=fun i=>M6 b br i&&r7 b i==v) (M:=(lV b).length) (i:=i) (by omega);refine(if_pos (decide_eq_true (by omega))).trans ?_;rw[X];refine(gP ⟨oo,by omega,trivial⟩).trans ?_;rw[WQ];generalize ((List.range (lV b).length).filter fun i=>M6 b br i&&r7 b i==v).getD i 0=k at l;have V:Int.toNat ((k:Nat):Int)=k:=rfl;obtain⟨P,f2,Q,f4⟩:=CR b a l;have E:ix ((k:Nat):Int) (l6 b).2.2.1.length:=⟨by omega,by show((k:Nat):Int) < ((lV b).length:Int); omega⟩;refine(gP ⟨E,trivial⟩).trans ?_;rw[lE,V];have W:((l6 b).2.2.1.getD k (a6 y138)).1=(p6 b k:Int):=P;have e6:Int.toNat ((p6 b k:Nat):Int)=p6 b k:=rfl;have r:=j.vals _ Q;have n1:=j.l1;have n2:=j.l2;have n3:=j.l3;rw[W];refine(gP ⟨oo,trivial⟩).trans ?_;rw[e6];rw[C0y];by_cases h:t.1.getD (p6 b k) false=true
   ·rw[if_pos h,if_pos h];obtain⟨_,_,_,e⟩:=WV w s a f u l;have T:=(e _ r.2.1).2;have ok:=WW w s a f u l r.2.1;have y:=RQ.1 r.1;rw[show t.2.2.getD (p6 b k) (a6 y73)=t.2.2.getD (p6 b k) (0,0) from rfl,T,vS];refine(gP ⟨oo,rfl,trivial⟩).trans ?_;rw[lE];have G:BB (t.2.1.getD (p6 b k) (a6 y73)) (H6 b c k (t.2.2.getD (p6 b k) (0,0))).1=some (Z0 (t.2.1.getD (p6 b k) (0,0)) (H6 b c k (t.2.2.getD (p6 b k) (0,0))).1):=by
     unfold BB;refine(gP ⟨⟨?_,?_⟩,⟨?_,?_⟩,trivial⟩).trans rfl
     ·grind
     ·grind
     ·grind
     ·grind
    rw[G,vS];have H:=I0T v o (Z0 (t.2.1.getD (p6 b k) (0,0)) (H6 b c k (t.2.2.getD (p6 b k) (0,0))).1,(H6 b c k (t.2.2.getD (p6 b k) (0,0))).2);have q:Gm ((N5 v o).1.1,((N5 v o).1.2.1.1,(N5 v o).1.2.1.2),(N5 v o).1.2.2.1,(N5 v o).1.2.2.2) (N5 v o).2 (Z0 (t.2.1.getD (p6 b k) (0,0)) (H6 b c k (t.2.2.getD (p6 b k) (0,0))).1) (H6 b c k (t.2.2.getD (p6 b k) (0,0))).2=some (N5 v (GI o (Z0 (t.2.1.getD (p6 b k) (0,0)) (H6 b c k (t.2.2.getD (p6 b k) (0,0))).1,(H6 b c k (t.2.2.getD (p6 b k) (0,0))).2))):=H;simp only[q,vS,Option.isSome_some];refine(gP ⟨⟨oo,trivial,trivial⟩,trivial,trivial⟩).trans ?_;rw[lE];refine(gP trivial).trans ?_;exact gP ⟨oo,trivial⟩
   ·rw[if_neg h,if_neg h];exact gP ⟨oo,trivial⟩
  ·refine(if_neg (by simp)).trans ?_;cases o <;> rfl
  ·rw[z];exact congrArg (fun x=>some (BV v x)) (s0G (fun i=>M6 b br i&&r7 b i==v) (fun k (o:Option u5)=>match CQ t (p6 b k) with
    | none=>o
    | some x=>GI o (Z0 x.1 (H6 b c k x.2).1,(H6 b c k x.2).2)) (lV b).length o)
 show(if(M0y v (O6 ss v)).2=true then _ else _)=some (BV v (fN (DG (p6 b) (r7 b) (M6 b br) (H6 b c) (CQ t) v) (lV b).length (O6 ss v)));cases y:O6 ss v with
 | none=>exact d none
 | some x =>
   refine(if_pos rfl).trans ?_;refine(gP ⟨trivial,rfl,trivial⟩).trans ?_;rw[lE];refine(gP trivial).trans ?_;exact d (some x)
end
def R4(v i:Nat)(o:Option u5):Bool×Int×Int×Int×Int×Int×Int:=match o with
 | some x=>(true,(i:Int),(v:Int),x.1.1,x.1.2,x.2.1,x.2.2)
 | none=>(false,(i:Int),0,0,0,0,0)
section
variable {b:j0}
theorem x0O(h:wf j3 b)(j:h9 j3 b<=1048576)(a:x5 b=true){c:p8}(f:wf q4 c)(g:J2 c=true){k:Nat}(e:k < (lV b).length){sp:Sp}(d:D7 sp=true):FT b c ((lV b).getD k (a6 y138)) sp=some (H6 b c k sp):=by
 obtain⟨v,l,i⟩:=s0P h a g (WU e) sp d
 grind[WV]
theorem I0N(hw:wf j3 b)(hm:h9 j3 b<=1048576)(z:x5 b=true){c:p8}(x:wf q4 c)(hc:J2 c=true){br:List Int}{ss:List l7}(hl:ss.length<=9223372036854775807)(hi:IE ss){t:KB}(E:WX (j1 b) t)(v:Nat) :
  Gl b c (lV b) (H0 (lV b).length br) ss t (v:Int)=some (BV v (X1 b c br ss (CQ t) v)):=by
 have hM:=AL z;have aA:=RO (lV b).length br;have T:∀o,JS (v:Int) t b c (H0 (lV b).length br) (lV b) ((R4 v 0 o).1,(R4 v 0 o).2.2)=some (BV v (fN (DG (p6 b) (r7 b) (M6 b br) (H6 b c) (CQ t) v) (lV b).length o)):=by
  intro o;rw[JS];have e0:((R4 v 0 o).1,(0:Int),(R4 v 0 o).2.2.1,(R4 v 0 o).2.2.2.1,(R4 v 0 o).2.2.2.2.1,(R4 v 0 o).2.2.2.2.2.1,(R4 v 0 o).2.2.2.2.2.2)=R4 v 0 o:=by cases o <;> rfl
  rw[e0];refine lF (n:=(lV b).length) (by omega) (fun i o=>R4 v i o) (fun k o=>DG (p6 b) (r7 b) (M6 b br) (H6 b c) (CQ t) v k o) (fun _ _=>True) (J:=fun o=>some (BV v o)) (F:=G0o (v:Int) t b c (H0 (lV b).length br) (lV b)) (fun g k o X _=>?_) (fun _ _ _ _=>trivial) (fun g o _=>?_) o trivial
  ·have Q:Int.toNat ((k:Nat):Int)=k:=rfl;obtain⟨f1,f2,f3,f4⟩:=CR b z X;have W:=E.vals _ f3;have n1:=E.l1;have n2:=E.l2;have n3:=E.l3;have e6:Int.toNat ((p6 b k:Nat):Int)=p6 b k:=rfl;have a:∀(q:Bool) (H V G Y P:Int) (y:Option u5),R4 v (k+1) y=(q,(k:Int)+1,H,V,G,Y,P)->JR (k:Int) g (q,H,V,G,Y,P)=g (R4 v (k+1) y):=fun q H V G Y P y e=>by
    rw[e];exact gP ⟨oo,trivial⟩
   obtain⟨q,l,m,s,r,w,d⟩:∃q l m s r w,R4 v k o=(q,(k:Int),l,m,s,r,w):=by cases o <;> exact⟨_,_,_,_,_,_,rfl⟩
   rw[d];refine(if_pos (decide_eq_true (by omega))).trans ?_;refine(gP ⟨oo,trivial⟩).trans ?_;rw[lE,Q];have ne:(((lV b).getD k (a6 y138)).2.1 != (v:Int))=!(r7 b k==v):=by
    rw[f2];by_cases h:r7 b k=v
    ·grind
    ·grind
   rw[ne,f1,e6];refine(gP ⟨oo,(fun _=>oo),trivial⟩).trans ?_;show(if(!M6 b br k||!(r7 b k==v)||!t.1.getD (p6 b k) false)=true then _ else _)=_;unfold DG;by_cases u:(M6 b br k&&r7 b k==v)=true
   ·rw[if_pos u,C0y];rw[ba] at u;rw[u.1,u.2];by_cases j:t.1.getD (p6 b k) false=true
    ·rw[if_pos j,j];rw[if_neg (by simp)];have es:=x0O hw hm z x hc X W.2.1;have ok:=WW hw hm z x hc X W.2.1;have hs:=RQ.1 W.1;rw[show t.2.2.getD (p6 b k) (a6 y73)=t.2.2.getD (p6 b k) (0,0) from rfl,show t.2.1.getD (p6 b k) (a6 y73)=t.2.1.getD (p6 b k) (0,0) from rfl,es,vS];refine(gP ⟨oo,rfl,trivial⟩).trans ?_;rw[lE];refine(gP ⟨oo,oo,oo,oo,trivial⟩).trans ?_;show _=g (R4 v (k+1) (GI o (Z0 (t.2.1.getD (p6 b k) (0,0)) (H6 b c k (t.2.2.getD (p6 b k) (0,0))).1,(H6 b c k (t.2.2.getD (p6 b k) (0,0))).2)));generalize t.2.1.getD (p6 b k) (0,0)=A at hs;generalize H6 b c k (t.2.2.getD (p6 b k) (0,0))=D at ok;cases o with
     | none =>
       cases d;rw[if_neg (by simp)];show JR (k:Int) g (true,(v:Int),_,_,_,_)=_;exact a _ _ _ _ _ _ (GI none (Z0 A D.1,D.2)) rfl
     | some y =>
       cases d;refine(if_pos rfl).trans ?_;refine(gP ⟨rfl,trivial⟩).trans ?_;rw[lE];refine(gP ⟨rfl,trivial⟩).trans ?_;rw[lE];show JR (k:Int) g (true,(v:Int),_,_,_,_)=_;refine a _ _ _ _ _ _ (GI (some y) (Z0 A D.1,D.2)) ?_;show(true,_,_,(Y9 y.1 (Z0 A D.1)).1,(Y9 y.1 (Z0 A D.1)).2,(Y9 y.2 D.2).1,(Y9 y.2 D.2).2)=_;rw[l0c y.1,l0c y.2];rfl
    ·rw[if_neg j];have j:t.1.getD (p6 b k) false=false:=by simpa using j
     rw[j];refine(if_pos (by simp)).trans ?_;exact a _ _ _ _ _ _ o (by cases o <;> (cases d; rfl))
   ·rw[if_neg u];refine(if_pos ?_).trans (a _ _ _ _ _ _ o (by cases o <;> (cases d; rfl)))
    grind
  ·cases o <;> exact if_neg (by simp)
 unfold Gl;refine(lF (n:=ss.length) hl (fun i o=>R4 v i o) (fun i o=>Fx ss (a6 y75) v i o) (fun _ _=>True) (J:=fun o=>JS (v:Int) t b c (H0 (lV b).length br) (lV b) ((R4 v 0 o).1,(R4 v 0 o).2.2)) (F:=G0p ss (v:Int) t b c (H0 (lV b).length br) (lV b)) (fun g i o hi _=>?_) (fun _ _ _ _=>trivial) (fun g o _=>?_) none trivial).trans ?_
 ·have Q:Int.toNat ((i:Nat):Int)=i:=rfl;obtain⟨q,l,m,s,r,w,d⟩:∃q l m s r w,R4 v i o=(q,(i:Int),l,m,s,r,w):=by cases o <;> exact⟨_,_,_,_,_,_,rfl⟩
  rw[d];refine(if_pos (decide_eq_true (by omega))).trans ?_;refine(gP ⟨oo,trivial⟩).trans ?_;rw[Q];unfold Fx;by_cases f:((ss.getD i (a6 y75)).1==(v:Int))=true
  ·rw[if_pos f,if_pos f];refine(gP ⟨oo,trivial⟩).trans ?_;rw[lE];have f:(ss.getD i (a6 y75)).1=(v:Int):=by simpa using f
   refine(gP ⟨oo,trivial⟩).trans ?_;rw[f];rfl
  ·rw[if_neg f,if_neg f];refine(gP ⟨oo,trivial⟩).trans ?_;cases o <;> (cases d; rfl)
 ·cases o <;> exact if_neg (by simp)
 ·show JS _ _ _ _ _ _ ((R4 v 0 (fN (Fx ss (a6 y75) v) ss.length none)).1,(R4 v 0 (fN (Fx ss (a6 y75) v) ss.length none)).2.2)=_;rw[x0S hi];exact T _
end
theorem r0u{N:Nat}{T:Nat->Option u5}{v:Nat}{x:Option u5}:(x6 N T).1.set v x.isSome=(x6 N (L5 T v x)).1/\(x6 N T).2.1.set v (x.getD ((0,0),(0,0))).1=(x6 N (L5 T v x)).2.1/\(x6 N T).2.2.set v (x.getD ((0,0),(0,0))).2=(x6 N (L5 T v x)).2.2:=by
 have e:L5 T v x v=x:=if_pos rfl;have b:∀w,w≠v->L5 T v x w=T w:=fun w a=>if_neg a
 grind[x6,E0e,L5]
theorem r0t(N:Nat):x6 N (fun _=>none)=(List.replicate N false,List.replicate N ((0:Int),(0:Int)),List.replicate N ((0:Int),(0:Int))):=by
 grind[x6,List.map_const',List.length_range]
def IG(b:j0)(o:Option (Nat->Option u5)):B8×Bool:=match o with
 | some T=>(x6 (j1 b) T,true)
 | none=>(([],[],[]),false)
section
variable {b:j0}
theorem v0o(i:wf j3 b)(f:h9 j3 b<=1048576)(e:x5 b=true){c:p8}(a:wf q4 c)(h:J2 c=true){br:List Int}{ss:List S6}(d:∀s∈ss,H5 s.2.1=true/\D7 s.2.2=true){T:Nat->Option u5}(j:∀v x,T v=some x->H5 x.1=true/\D7 x.2=true){v:Nat}{x:u5}(g:X1 b c br ss T v=some x):D7 x.2=true :=
 (y0A i f e a h d j v _ (Nat.le_refl _) x g).2
structure RR(b:j0)(out:List Nat)(i:Nat)(T:Nat->Option u5):Prop where
 ok:∀v x,T v=some x->H5 x.1=true/\D7 x.2=true
 no:∀j,i<=j->j<out.length->T (out.getD j 0)=none
theorem t0B(t:wf j3 b)(n:h9 j3 b<=1048576)(m:x5 b=true){c:p8}(g:wf q4 c)(r:J2 c=true){br:List Int}{ss:List S6}(k:∀s∈ss,H5 s.2.1=true/\D7 s.2.2=true){a:List Nat}(o:a.Nodup){i:Nat}(_:i<a.length){T:Nat->Option u5}(h:RR b a i T)(l:GK CS (X1 b c br ss T (a.getD i 0))=true) :
  RR b a (i+1) (L5 T (a.getD i 0) (X1 b c br ss T (a.getD i 0))):=by
 refine⟨fun v x d=>?_,fun j u f=>?_⟩
 ·unfold L5 at d;split at d
  ·rw[d] at l;exact⟨l,v0o t n m g r k h.ok d⟩
  ·exact h.ok v x d
 ·unfold L5;rw[if_neg (fun e=>y0y o (p:=i) (q:=j) (by omega) f e.symm)];exact h.no j (by omega) f
def GO(b:j0)(c:p8)(br:List Int)(ss:List S6)(out:List Nat)(i:Nat)(T:Nat->Option u5):Option (Nat->Option u5):=if GK CS (X1 b c br ss T (out.getD i 0))=true then some (L5 T (out.getD i 0) (X1 b c br ss T (out.getD i 0))) else none
theorem q0z{c:p8}{br:List Int}{ss:List S6}{a:List Nat}{i:Nat}(hi:i<a.length)(T:Nat->Option u5) :
  some (IG b (GL (lV b).length (p6 b) (r7 b) (M6 b br) (H6 b c) (O6 ss) CS (a.drop i) T))=match GO b c br ss a i T with
   | some s'=>some (IG b (GL (lV b).length (p6 b) (r7 b) (M6 b br) (H6 b c) (O6 ss) CS (a.drop (i+1)) s'))
   | none=>some (([],[],[]),false):=by
 have e:a.drop i=a.getD i 0 :: a.drop (i+1):=by
  rw[List.drop_eq_getElem_cons hi,gq,List.getElem?_eq_getElem hi];rfl
 rw[e,u0V];unfold GO;show some (IG b (if GK CS (X1 b c br ss T (a.getD i 0))=true then _ else none))=_;by_cases h:GK CS (X1 b c br ss T (a.getD i 0))=true
 ·rw[if_pos h,if_pos h];rfl
 ·rw[if_neg h,if_neg h];rfl
theorem I0E(G:wf j3 b)(z:h9 j3 b<=1048576)(f:x5 b=true){c:p8}(j:wf q4 c)(E:J2 c=true){br:List Int}{ss:List l7}(hl:ss.length<=9223372036854775807)(r:∀s∈ss,H5 s.2.1=true/\D7 s.2.2=true){a:List Nat}(H:OrdOk b br a)(m:a.length<=9223372036854775807) :
  HY (l6 b,H0 (lV b).length br) c ss (a.map fun v:Nat=>(v:Int))=some (IG b (IF b c br ss a)):=by
 have hN:=KD b f;have V:NN (l6 b)=some (x6 (j1 b) fun _=>none):=by
  unfold NN;rw[WJ b f,vS,gP ⟨rfl,trivial⟩,lE,Int.toNat_natCast];refine(gP ⟨⟨by omega,rfl,by omega,by omega⟩,⟨by omega,rfl,by omega,by omega⟩,⟨by omega,rfl,by omega,by omega⟩,trivial⟩).trans ?_;rw[r0t]
 unfold HY;rw[V,vS,gP ⟨rfl,trivial⟩,lE];refine OF (n:=a.length) m (fun i T=>((i:Int),(x6 (j1 b) T).2.2,(x6 (j1 b) T).2.1,(x6 (j1 b) T).1)) (GO b c br ss a) (fun _ _=>some (([],[],[]),false)) (RR b a) (J:=fun T=>some (x6 (j1 b) T,true)) (F:=G0i (a.map fun v:Nat=>(v:Int)) (l6 b,H0 (lV b).length br) c ss) (fun g i T hi t=>?_) (fun i T T' hi t e=>?_) (fun g T _=>if_neg (by simp)) (fun i T=>some (IG b (GL (lV b).length (p6 b) (r7 b) (M6 b br) (H6 b c) (O6 ss) CS (a.drop i) T))) (fun T _=>?_) (fun i T hi _=>(q0z hi T).trans (by grind)) 0 (Nat.zero_le _) (fun _=>none) ⟨fun _ _ h=>(by cases h),fun _ _ _=>rfl⟩
 ·have W:((i:Int)).toNat=i:=rfl;have X:=H.lt _ (L8 (d:=0) hi);refine(if_pos (decide_eq_true (by grind))).trans ?_;refine(gP ⟨⟨by omega,by grind⟩,trivial⟩).trans ?_;rw[W,r0H];have y:=M0t G z f j E (br:=br) hl (r0v (N:=j1 b) (fun v _ x P=>t.ok v x P)) (a.getD i 0);rw[k0V f (fun w u=>w0q u)] at y;have l:u64 (l6 b,H0 (lV b).length br) c ss ((x6 (j1 b) T).1,(x6 (j1 b) T).2.1,(x6 (j1 b) T).2.2) ((a.getD i 0:Nat):Int)=some (BV (a.getD i 0) (X1 b c br ss T (a.getD i 0))):=y;rw[l,vS,gP ⟨rfl,trivial⟩,lE];obtain⟨o,q,k⟩:=r0u (N:=j1 b) (T:=T) (v:=a.getD i 0) (x:=X1 b c br ss T (a.getD i 0));obtain⟨n1,n2,n3⟩:=OD (N:=j1 b) (T:=T);unfold GO;generalize a.getD i 0=v at X o q k;have Q:Int.toNat ((v:Nat):Int)=v:=rfl;rw[Q];cases hy:X1 b c br ss T v with
  | none =>
    rw[hy] at o q k;refine(gP ⟨fun h=>(by cases h.1),trivial⟩).trans ?_;refine(if_neg (by simp[BV])).trans ?_;refine(gP ⟨oo,by omega,oo,by omega,oo,by omega,trivial⟩).trans ?_;refine(gP ⟨oo,trivial⟩).trans ?_;show g ((i:Int)+1,(x6 (j1 b) T).2.2.set v (0,0),(x6 (j1 b) T).2.1.set v (0,0),(x6 (j1 b) T).1.set v false)=g (((i+1:Nat):Int),(x6 (j1 b) (L5 T v none)).2.2,(x6 (j1 b) (L5 T v none)).2.1,(x6 (j1 b) (L5 T v none)).1)
    grind
  | some x =>
    rw[hy] at o q k;refine(gP ⟨fun _=>by grind[OG],trivial⟩).trans ?_;rw[(OG _).1,vS];show(if(true&&!H5 x.1)=true then _ else _)=_;rw[show GK CS (some x)=H5 x.1 from rfl];cases hs:H5 x.1 with
    | false=>rfl
    | true =>
      refine(if_neg (by simp)).trans ?_;refine(gP ⟨oo,by omega,oo,by omega,oo,by omega,trivial⟩).trans ?_;refine(gP ⟨oo,trivial⟩).trans ?_;show g ((i:Int)+1,(x6 (j1 b) T).2.2.set v x.2,(x6 (j1 b) T).2.1.set v x.1,(x6 (j1 b) T).1.set v true)=g (((i+1:Nat):Int),(x6 (j1 b) (L5 T v (some x))).2.2,(x6 (j1 b) (L5 T v (some x))).2.1,(x6 (j1 b) (L5 T v (some x))).1)
      grind
 ·unfold GO at e;split at e
  ·rename_i Y;cases e;exact t0B G z f j E r H.nd hi t Y
  grind
 ·rw[List.drop_length];rfl
theorem I0n(q:wf j3 b)(E:h9 j3 b<=1048576)(f:x5 b=true){c:p8}(j:wf q4 c)(H:J2 c=true){br:List Int}{ss:List l7}(hl:ss.length<=9223372036854775807)(k:IE ss)(r:∀s∈ss,H5 s.2.1=true/\D7 s.2.2=true){a:List Nat}(Q:OrdOk b br a)(o:a.length<=9223372036854775807) :
  JT b c (lV b) (H0 (lV b).length br) ss (a.map fun v:Nat=>(v:Int))=some (IG b (IF b c br ss a)):=by
 have hN:=KD b f;have X:NM (j1 b:Int)=some (x6 (j1 b) fun _=>none):=by
  unfold NM;rw[Int.toNat_natCast];refine(gP ⟨⟨by omega,rfl,by omega,by omega⟩,⟨by omega,rfl,by omega,by omega⟩,⟨by omega,rfl,by omega,by omega⟩,trivial⟩).trans ?_;rw[r0t]
 unfold JT;rw[r60 b q f,vS,X,vS,gP ⟨rfl,rfl,trivial⟩,lE];refine OF (n:=a.length) o (fun i T=>((i:Int),(x6 (j1 b) T).2.2,(x6 (j1 b) T).2.1,(x6 (j1 b) T).1)) (GO b c br ss a) (fun _ _=>some (([],[],[]),false)) (RR b a) (J:=fun T=>some (x6 (j1 b) T,true)) (F:=G0k (a.map fun v:Nat=>(v:Int)) b c (lV b) (H0 (lV b).length br) ss) (fun g i T hi l=>?_) (fun i T T' hi l e=>?_) (fun g T _=>if_neg (by simp)) (fun i T=>some (IG b (GL (lV b).length (p6 b) (r7 b) (M6 b br) (H6 b c) (O6 ss) CS (a.drop i) T))) (fun T _=>?_) (fun i T hi _=>(q0z hi T).trans (by grind)) 0 (Nat.zero_le _) (fun _=>none) ⟨fun _ _ h=>(by cases h),fun _ _ _=>rfl⟩
 ·have Y:((i:Int)).toNat=i:=rfl;have hv:=Q.lt _ (L8 (d:=0) hi);refine(if_pos (decide_eq_true (by grind))).trans ?_;refine(gP ⟨⟨by omega,by grind⟩,trivial⟩).trans ?_;rw[Y,r0H];have z:=I0N q E f j H (br:=br) hl k (r0v (N:=j1 b) (fun v _ x V=>l.ok v x V)) (a.getD i 0);rw[k0V f (fun w t=>w0q t)] at z;have m:Gl b c (lV b) (H0 (lV b).length br) ss ((x6 (j1 b) T).1,(x6 (j1 b) T).2.1,(x6 (j1 b) T).2.2) ((a.getD i 0:Nat):Int)=some (BV (a.getD i 0) (X1 b c br ss T (a.getD i 0))):=z;rw[m,vS,gP ⟨rfl,trivial⟩,lE];obtain⟨G,P,y⟩:=r0u (N:=j1 b) (T:=T) (v:=a.getD i 0) (x:=X1 b c br ss T (a.getD i 0));obtain⟨n1,n2,n3⟩:=OD (N:=j1 b) (T:=T);have u:=l.no i (Nat.le_refl _) hi;unfold GO;generalize a.getD i 0=v at hv G P y u;have W:Int.toNat ((v:Nat):Int)=v:=rfl;rw[W];cases hy:X1 b c br ss T v with
  | none =>
    refine(if_pos rfl).trans ?_;refine(gP ⟨oo,trivial⟩).trans ?_;show g ((i:Int)+1,(x6 (j1 b) T).2.2,(x6 (j1 b) T).2.1,(x6 (j1 b) T).1)=g (((i+1:Nat):Int),(x6 (j1 b) (L5 T v none)).2.2,(x6 (j1 b) (L5 T v none)).2.1,(x6 (j1 b) (L5 T v none)).1)
    grind[z0o]
  | some x =>
    rw[hy] at G P y;refine(if_neg (by simp[BV])).trans ?_;rw[(OG _).2,vS];refine(gP ⟨rfl,trivial⟩).trans ?_;show(if(!H5 x.1)=true then _ else _)=_;rw[show GK CS (some x)=H5 x.1 from rfl];cases hs:H5 x.1 with
    | false=>rfl
    | true =>
      refine(if_neg (by simp)).trans ?_;refine(gP ⟨oo,by omega,trivial⟩).trans ?_;refine(gP ⟨oo,by omega,trivial⟩).trans ?_;refine(gP ⟨oo,by omega,trivial⟩).trans ?_;refine(gP ⟨oo,trivial⟩).trans ?_;show g ((i:Int)+1,(x6 (j1 b) T).2.2.set v x.2,(x6 (j1 b) T).2.1.set v x.1,(x6 (j1 b) T).1.set v true)=g (((i+1:Nat):Int),(x6 (j1 b) (L5 T v (some x))).2.2,(x6 (j1 b) (L5 T v (some x))).2.1,(x6 (j1 b) (L5 T v (some x))).1)
      grind
 ·unfold GO at e;split at e
  ·rename_i hk;cases e;exact t0B q E f j H r Q.nd hi l hk
  grind
 ·rw[List.drop_length];rfl
end
def X2(b:j0)(c:p8)(br:List Int)(ss:List l7):Int:=if(x5 b&&J2 c)=true then(if(BU (lV b).length br&&CT b ss)=true then(if(As (X0 b (H0 (lV b).length br) [] (j1 b))).2=true then 0 else 7) else 2) else 1
structure TG(b:j0)(c:p8)(br:List Int)(ss:List l7)(out:List Nat):Prop where
 hb:x5 b=true
 hc:J2 c=true
 hbr:BU (lV b).length br=true
 hs:CT b ss=true
 ho:X0 b (H0 (lV b).length br) [] (j1 b)=some out
section
variable {b:j0} {c:p8} {br:List Int} {ss:List l7} {out:List Nat}
theorem WY(h:X2 b c br ss=0):∃out,TG b c br ss out:=by
 unfold X2 at h;split at h
 ·rename_i a;split at h
  ·rename_i d;split at h
   ·rename_i e;rw[ba] at a d;cases ho:X0 b (H0 (lV b).length br) [] (j1 b) with
    | none=>rw[ho] at e; cases e
    | some out=>exact⟨out,a.1,a.2,d.1,d.2,ho⟩
   omega
  omega
 omega
theorem TG.code(h:TG b c br ss out):X2 b c br ss=0:=by
 unfold X2;rw[h.hb,h.hc,h.hbr,h.hs,h.ho];rfl
theorem TG.ord(h:TG b c br ss out):OrdOk b br out:=I0G h.hb h.ho
theorem TG.len(h:TG b c br ss out):out.length<=1000000:=Nat.le_trans (RP _ _ h.ord.nd h.ord.lt) (KD b h.hb)
theorem TG.src(h:TG b c br ss out):IE ss/\∀s∈ss,H5 s.2.1=true/\D7 s.2.2=true:=⟨(u0I h.hs).1,fun s hs=>((u0I h.hs).2 s hs).2⟩
def RS(b:j0)(c:p8)(br:List Int)(ss:List l7):Int ⊕ (H3×List Int×Int):=if X2 b c br ss=0 then .inr ((l6 b,H0 (lV b).length br),(As (X0 b (H0 (lV b).length br) [] (j1 b))).1,0) else .inl (X2 b c br ss)
theorem L0g(e:wf j3 b)(f:h9 j3 b<=1048576)(d:wf q4 c)(a:br.length<=1048576)(g:ss.length<=9223372036854775807):Cz b c br ss=some (RS b c br ss):=by
 unfold Cz RS X2;rw[P0J b e f,P0I c d,vS,vS];refine(gP ⟨rfl,fun _=>rfl,trivial⟩).trans ?_;cases hb:x5 b with
 | false=>rfl
 | true =>
   cases hc:J2 c with
   | false=>rfl
   | true =>
     refine(if_neg (by simp)).trans ?_;rw[P0H b e hb,vS];refine(gP ⟨rfl,trivial⟩).trans ?_;rw[lE,P0G hb br a,P0F b hb ss g,vS,vS];refine(gP ⟨rfl,fun _=>rfl,trivial⟩).trans ?_;cases hk:BU (lV b).length br with
     | false=>rfl
     | true =>
       cases hs:CT b ss with
       | false=>rfl
       | true =>
         refine(if_neg (by simp)).trans ?_;rw[P0E hb hk a,vS];refine(gP ⟨rfl,trivial⟩).trans ?_;rw[lE,P0D hb (RO _ _),vS];refine(gP ⟨rfl,trivial⟩).trans ?_
         grind[lE,As,X0,H0,lV,j1]
theorem D0K(d:wf j3 b)(e:h9 j3 b<=1048576)(f:wf q4 c)(a:br.length<=1048576)(g:ss.length<=9223372036854775807):Hs b c br ss=some (if X2 b c br ss=0 then((As (X0 b (H0 (lV b).length br) [] (j1 b))).1,0) else([],X2 b c br ss)):=by
 unfold Hs X2;rw[r83 b d e,r84 c f,vS,vS];refine(gP ⟨rfl,fun _=>rfl,trivial⟩).trans ?_;cases hb:x5 b with
 | false=>rfl
 | true =>
   cases hc:J2 c with
   | false=>rfl
   | true =>
     refine(if_neg (by simp)).trans ?_;rw[M0P b d e br a,P0A b d hb ss g,vS,vS];refine(gP ⟨rfl,fun _=>rfl,trivial⟩).trans ?_;rw[lE,P0z b d e br a];unfold Fy WS Fy;rw[hb];cases hk:BU (lV b).length br with
     | false=>rfl
     | true =>
       cases hs:CT b ss with
       | false=>rfl
       | true =>
         refine(if_neg (by simp)).trans ?_;rw[vS];refine(gP ⟨rfl,trivial⟩).trans ?_
         grind[lE,As,X0,H0,lV,j1]
def S7(b:j0)(c:p8)(br:List Int)(ss:List l7):B8×Int:=if X2 b c br ss=0 then(match IF b c br ss ((X0 b (H0 (lV b).length br) [] (j1 b)).getD []) with
 | some T=>(x6 (j1 b) T,0)
 | none=>(([],[],[]),3)) else(([],[],[]),X2 b c br ss)
theorem TG.pt(h:TG b c br ss out):S7 b c br ss=match IF b c br ss out with
 | some T=>(x6 (j1 b) T,0)
 | none=>(([],[],[]),3):=by
 unfold S7;rw[if_pos h.code,h.ho];rfl
theorem TG.res(h:TG b c br ss out):(As (X0 b (H0 (lV b).length br) [] (j1 b))).1=out.map fun v:Nat=>(v:Int):=by
 rw[h.ho];rfl
theorem P0K(j:wf j3 b)(g:h9 j3 b<=1048576)(e:wf q4 c)(f:br.length<=1048576)(i:ss.length<=9223372036854775807):QY b c br ss=some (S7 b c br ss):=by
 unfold QY;rw[L0g j g e f i];by_cases h:X2 b c br ss=0
 ·obtain⟨a,d⟩:=WY h;unfold RS;rw[if_pos h,d.res,d.pt];refine(if_neg (by simp[Ff])).trans ((gP ⟨rfl,trivial⟩).trans ?_);show gd ((HY (l6 b,H0 (lV b).length br) c ss (a.map fun v:Nat=>(v:Int))).isSome=true/\True) (lt (vl (HY (l6 b,H0 (lV b).length br) c ss (a.map fun v:Nat=>(v:Int)))) fun l=>_)=_;have k:=d.len;rw[I0E j g d.hb e d.hc i d.src.2 d.ord (by omega),vS];refine(gP ⟨rfl,trivial⟩).trans ?_;rw[lE];cases IF b c br ss a <;> rfl
 ·unfold RS S7;rw[if_neg h,if_neg h];refine(if_pos rfl).trans ((gP ⟨rfl,trivial⟩).trans ?_);exact if_pos (by show(X2 b c br ss != 0)=true; simp[h])
theorem L0i(g:wf j3 b)(i:h9 j3 b<=1048576)(e:wf q4 c)(f:br.length<=1048576)(j:ss.length<=9223372036854775807):QT b c br ss=some (S7 b c br ss):=by
 unfold QT;rw[D0K g i e f j,vS];refine(gP ⟨rfl,trivial⟩).trans ?_;rw[lE];by_cases h:X2 b c br ss=0
 ·obtain⟨d,a⟩:=WY h;rw[if_pos h,a.res,a.pt];refine(if_neg (by simp)).trans ?_;have k:=a.len;have l:=AL a.hb;rw[Wt b g a.hb,vS];refine(gP ⟨rfl,trivial⟩).trans ?_;rw[lE,r44 _ _ (by omega) f,vS];show gd (_/\(JT b c (lV b) (H0 (lV b).length br) ss (d.map fun v:Nat=>(v:Int))).isSome=true/\True) _=_;rw[I0n g i a.hb e a.hc j a.src.1 a.src.2 a.ord (by omega),vS];refine(gP ⟨rfl,rfl,trivial⟩).trans ?_;rw[lE];cases IF b c br ss d <;> rfl
 grind[S7,X2]
end
end Go.Proofs.YtechodbafnmddaaGreatDoor
end
section
namespace Go.Proofs.Xd
open Go Go.Proofs.Xl Go.Proofs.Xv
def wd:Ty->Nat
 | .pr a b=>wd a+wd b
 | .sl e=>wd e
 | .pt _=>0
 | _=>1
theorem RU:∀(t:Ty) (x:c7 t),l8 t x<=wd t*(1+h9 t x)
 | .int _,_=>by simp[l8,wd]
 | .bool,_=>by simp[l8,wd]
 | .str,_=>by simp[l8,wd]
 | .pt _,_=>by simp[l8]
 | .sl e,xs=>by
   have c:∀l:List (c7 e),(l.map (l8 e)).sum<=wd e*(l.length+(l.map (h9 e)).sum):=by
    intro l
    induction l with
    | nil=>exact Nat.zero_le _
    | cons a r f =>
      have d:=RU e a;rw[List.map_cons,List.sum_cons,List.map_cons,List.sum_cons,List.length_cons];have j:wd e*(r.length+1+(h9 e a+(r.map (h9 e)).sum))=wd e*(1+h9 e a)+wd e*(r.length+(r.map (h9 e)).sum):=by
       rw[<- Nat.mul_add]; congr 1; omega
      omega
   refine Nat.le_trans (c xs) ?_;show _<=wd e*(1+(xs.length+(xs.map (h9 e)).sum));exact Nat.mul_le_mul_left _ (by omega)
 | .pr a b,x=>by
   have d:=RU a x.1;have g:=RU b x.2;show l8 a x.1+l8 b x.2<=(wd a+wd b)*(1+(h9 a x.1+h9 b x.2));have h:wd a*(1+h9 a x.1)<=wd a*(1+(h9 a x.1+h9 b x.2)):=Nat.mul_le_mul_left _ (by omega);have i:wd b*(1+h9 b x.2)<=wd b*(1+(h9 a x.1+h9 b x.2)):=Nat.mul_le_mul_left _ (by omega);rw[Nat.add_mul];omega
theorem WZ{t:Ty}{x:c7 t}{k:Nat}(h:h9 t x<=1048576)(a:wd t<=k):(l8 t x:Int)<=(k*1048577:Nat):=by
 have b:=RU t x;have c:wd t*(1+h9 t x)<=k*1048577:=Nat.mul_le_mul a (by omega);omega
end Go.Proofs.Xd
end
section
namespace Go.Proofs.YtechodbafnmddaaGreatDoor
open Go Go.Proofs Go.Proofs.Sv Go.Proofs.Xv Go.Proofs.Xl Go.Proofs.Xd
theorem v0y:∀(n:Nat) (k:Int) (i:Nat),i<n->(AH k n).getD i false=((k+(i:Int)).tmod 3==0)
 | n+1,k,0,_=>by show(k.tmod 3==0)=_; rw[show k+((0:Nat):Int)=k by omega]
 | n+1,k,i+1,h=>by
   show(AH (k+1) n).getD i false=_;rw[v0y n (k+1) i (by omega),show k+1+(i:Int)=k+((i+1:Nat):Int) by omega]
theorem v0w:∀(n:Nat) (k:Int) (i:Nat),i<n->(S0 k n).getD i (a6 y73)=(k+((2*i:Nat):Int),k+((2*i:Nat):Int)+1)
 | n+1,k,0,_=>by show(k,k+1)=_; rw[show k+((2*0:Nat):Int)=k by omega]
 | n+1,k,i+1,h=>by
   show(S0 (k+1+1) n).getD i (a6 y73)=_;rw[v0w n (k+1+1) i (by omega),show k+1+1+((2*i:Nat):Int)=k+((2*(i+1):Nat):Int) by omega]
theorem z0i(n:Nat)(k:Int):fN (fun _ (s:Int)=>s+1+1) n k=k+((2*n:Nat):Int):=by
 induction n with
 | zero=>show k=_; omega
 | succ n a=>rw[fN,a]; omega
theorem I0V(n:Nat)(k:Int):fN (fun _ (s:Int)=>s+1) n k=k+(n:Int):=by
 induction n with
 | zero=>show k=_; omega
 | succ n a=>rw[fN,a]; omega
theorem r75(n:Nat)(k:Int)(f:n<=1048576)(d:0<=k)(c:k<=1048576000):Ra (AH k n) k=some (k+(n:Int)):=by
 have b:=VC n k;rw[<- I0V n];refine lF (n:=n) (by omega) (fun i (s:Int)=>(s,(i:Int))) (fun _ s=>s+1) (fun i s=>s=k+(i:Int)) (J:=Vr) (F:=G0h (AH k n)) (fun g i s hi a=>?_) (fun i s hi a=>by subst a; omega) (fun g s _=>if_neg (by rw[b]; simp)) _ (by omega);subst a;refine(if_pos (decide_eq_true (by rw[b]; omega))).trans ?_;refine(gP ⟨⟨by omega,by rw[b]; omega⟩,by decide,trivial⟩).trans ?_;have e:(i:Int).toNat=i:=rfl;rw[e,v0y n k i hi];refine(if_neg (by simp)).trans ?_;refine(gP ⟨oo,trivial⟩).trans ?_;exact gP ⟨oo,trivial⟩
theorem r76(n:Nat)(k:Int)(f:n<=1048576)(d:0<=k)(c:k<=1048576000):JW (S0 k n) k=some (k+((2*n:Nat):Int)):=by
 have a:=VE n k;rw[<- z0i n];refine lF (n:=n) (by omega) (fun i (s:Int)=>(s,(i:Int))) (fun _ s=>s+1+1) (fun i s=>s=k+((2*i:Nat):Int)) (J:=Vs) (F:=G0g (S0 k n)) (fun g i s hi b=>?_) (fun i s hi b=>by subst b; omega) (fun g s _=>if_neg (by rw[a]; simp)) _ (by omega);subst b;refine(if_pos (decide_eq_true (by rw[a]; omega))).trans ?_;refine(gP ⟨⟨by omega,by rw[a]; omega⟩,trivial⟩).trans ?_;have e:(i:Int).toNat=i:=rfl;rw[e,v0w n k i hi];refine(if_neg (by simp)).trans ?_;refine(gP ⟨oo,trivial⟩).trans ?_;refine(gP ⟨⟨by omega,by rw[a]; omega⟩,trivial⟩).trans ?_;refine(if_neg (by simp)).trans ?_;refine(gP ⟨oo,trivial⟩).trans ?_;exact gP ⟨oo,trivial⟩
theorem r31(a d e:Nat)(c:a<=1048576)(f:d<=1048576)(h:e<=1048576):Rb (AH 1 a,S0 (1+(a:Int)) d,S0 (1+((a+2*d:Nat):Int)) e) (1:Int)=some (1+((a+2*d+2*e:Nat):Int)):=by
 have g:1+(a:Int)+((2*d:Nat):Int)=1+((a+2*d:Nat):Int):=by omega
 have b:1+((a+2*d:Nat):Int)+((2*e:Nat):Int)=1+((a+2*d+2*e:Nat):Int):=by omega
 unfold Rb;rw[r75 a 1 c (by omega) (by omega),vS];refine(gP ⟨rfl,trivial⟩).trans ?_;rw[lE];refine(if_neg (by simp; omega)).trans ?_;rw[r76 d _ f (by omega) (by omega),vS,g];refine(gP ⟨rfl,trivial⟩).trans ?_;rw[lE];refine(if_neg (by simp; omega)).trans ?_;rw[r76 e _ h (by omega) (by omega),vS,b];refine(gP ⟨rfl,trivial⟩).trans ?_;rw[lE];exact if_neg (by simp; omega)
theorem w0v(xs:List Bool):h9 (.sl .bool) xs=xs.length:=by
 show xs.length+(xs.map (h9 .bool)).sum=_;have:(xs.map (h9 .bool)).sum=0:=by
  induction xs with
  | nil=>rfl
  | cons a r b=>rw[List.map_cons,List.sum_cons,b]; rfl
 omega
theorem o0e(xs:List (Int×Int)):h9 (.sl y73) xs=xs.length:=by
 show xs.length+(xs.map (h9 y73)).sum=_;have:(xs.map (h9 y73)).sum=0:=by
  induction xs with
  | nil=>rfl
  | cons a r b=>rw[List.map_cons,List.sum_cons,b]; rfl
 omega
theorem D0R(b:j0)(c:p8)(br:List Int)(ss:List l7):(S7 b c br ss).1.1.length<=300/\(S7 b c br ss).1.2.1.length<=300/\(S7 b c br ss).1.2.2.length<=300:=by
 by_cases h:X2 b c br ss=0
 ·obtain⟨d,e⟩:=WY h;have f:=(W3 (Y7 e.hb).1).len;have a:j1 b<=300:=by unfold j1; omega
  rw[e.pt];cases IF b c br ss d with
  | none=>exact⟨Nat.zero_le 300,Nat.zero_le 300,Nat.zero_le 300⟩
  | some T =>
    show(x6 (j1 b) T).1.length<=300/\(x6 (j1 b) T).2.1.length<=300/\(x6 (j1 b) T).2.2.length<=300;unfold x6;simp only[List.length_map,List.length_range];exact⟨a,a,a⟩
 ·unfold S7;rw[if_neg h];exact⟨Nat.zero_le 300,Nat.zero_le 300,Nat.zero_le 300⟩
theorem Xa{br:List Int}(h:br.length<=1048576):h9 (.sl (.int .i64)) br<=1048576:=by
 have e:h9 (.sl (.int .i64)) br=br.length+0:=r0B;omega
theorem OH{n:Nat}{l:Int}(a:l<=1048576):u6 n l<=1048576:=by
 unfold u6;split <;> omega
theorem GP{n:Nat}{l:Int}(a:l<=1048576)(h:0<=u6 n l):n<=1048576:=by
 unfold u6 at h;split at h <;> omega
theorem r5(b:Ck)(c:Cm)(br:List Int)(ss:List AT)(m:wf T3 b)(e:wf T4 c)(_:wf (.sl (.int .i64)) br)(f:wf (.sl y106) ss):GL5 b c br ss:=by
 refine⟨_,z7 b 1048576 m (by decide) (by decide),OH (by decide),fun r=>?_⟩;have g:=GP (by decide) r;have h:=OH (n:=h9 T3 b) (l:=1048576) (by decide);generalize u6 (h9 T3 b) 1048576=l0 at r h;refine⟨_,z8 c _ e r (by omega),OH h,fun o=>?_⟩;have i:=GP h o;have j:=OH (n:=h9 T4 c) h;generalize u6 (h9 T4 c) l0=l1 at o j;refine⟨_,z9 ss _ f o (by omega),OH j,fun u a=>?_⟩;have d:=GP j u;have s:ss.length<=9223372036854775807:=f.1;obtain⟨y,w,z⟩:=D0R b c br ss;have H:=WZ (t:=j3) (x:=b) (k:=64) g (by decide);have E:=WZ (t:=.sl (.int .i64)) (x:=br) (k:=64) (Xa a) (by decide);have k3:=WZ (t:=.sl y106) (x:=ss) (k:=64) d (by decide);have q:h9 y65 (S7 b c br ss).1<=1048576:=by
  have F:=w0v (S7 b c br ss).1.1;have v:=o0e (S7 b c br ss).1.2.1;have G:=o0e (S7 b c br ss).1.2.2;show h9 (.sl .bool) (S7 b c br ss).1.1+(h9 (.sl y73) (S7 b c br ss).1.2.1+h9 (.sl y73) (S7 b c br ss).1.2.2)<=_;omega
 exact⟨(S7 b c br ss).1,(S7 b c br ss).2,⟨w12 b g,w13 c i,Bb br (Xa a),NS ss d,L0i m g e a s,P0K m g e a s,e21 _ q,e18 b g,Dr br (Xa a),e20 ss d,by omega,by omega,by omega,by omega,r31 _ _ _ (by omega) (by omega) (by omega)⟩⟩
end Go.Proofs.YtechodbafnmddaaGreatDoor
end
